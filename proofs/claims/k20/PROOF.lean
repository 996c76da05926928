import PyProof.Rows.All
import Wide.All
import OpenK.AllK
import Wide.FinOn
import HandS.ForMost
import HandS.ForExc
import HandS.Style
import HandS.Wide
import HandS.TupAny
import HandS.TupMul
import HandS.Zip
import KE.KDictKeyed
import KE.KDictDisplayH
import HandS.IsInst
import HandS.SetFor
import KE.DataMinMax
import KE.KTupSum
import KE.GoesMore
import HandS.SortInts
import HandS.DictEq
import PyProof.Rows.RowBridgeK
import KE.KRevSl
import PyProof.P3Eq
import HandS.ExcIs
import HandS.HotCalls
import HandS.Conv
import HandS.More
import HandS.Flow
import PySem.Challenge.RW_scoreforms_k20_whole_copies
section
set_option Elab.async false
set_option maxRecDepth 100000
set_option linter.all false
/-! Sf1: data trees D, the store, what they stand for in the abstract heap; outcomes; expressions as functions. -/
namespace Sf
open PySem PySem.Spec PyProof.Rows L2

/-- values as trees; a mutable object by its place in the store -/
inductive D where
  | und | non | bl (b : Bool) | int (i : Int) | str (x : Str) | tup (l : List D) | lst (l : List D) | scr (l : List D) | loc (n : Nat) | glob (v : V)

/-- what stands at a place of the store -/
inductive Ob where
  | lst (l : List D)
  | dct (lk : Bool) (kvs : List (D × D))
  | dki (lk : Bool) (kvs : List (Int × D))
  | ins (fs : List (Str × D))
abbrev Sto := List Ob
abbrev En := List D

inductive Out (α : Type) where
  | ok (a : α) (S : Sto)
  | exc (c : Nat) (S : Sto)
  | bad

def fit (n : Nat) : Bool := Nat.ble n 16777216
theorem fit_le {n : Nat} (h : fit n = true) : n ≤ sizeLine := by rw [sizeLine_eq]; exact Nat.le_of_ble_eq_true h
def fitS (n : Nat) : Bool := Nat.blt n 16777216
theorem fitS_lt {n : Nat} (h : fitS n = true) : n < sizeLine := by
  rw [sizeLine_eq]
  have := Nat.le_of_ble_eq_true (show Nat.ble (n + 1) 16777216 = true from h)
  omega

section
variable (K : PySem.W.Frag)
/-- an object of the written part -/
def WtL (a : Addr) (xs : List V) : Prop := ∃ (o : Obj) (its : Array Value) (n : Nat), K.lookup a = some o ∧ o.cls = .type "list" ∧ o.dict = none ∧ o.data = .seq its n ∧ its.size ≤ sizeLine ∧ Vals xs its.toList
variable (B : List Addr)
def TupAt (ρ : List Addr) (H : Hp) (a : Addr) (vs : List V) : Prop := a ∉ B ∧ a ∉ ρ ∧ H a = some (.tup vs)
def ScrAt (ρ : List Addr) (H : Hp) (a : Addr) (vs : List V) : Prop := (a ∉ B ∧ a ∉ ρ ∧ Rd H a (.lst vs)) ∨ WtL K a vs
mutual
/-- the value v stands for the tree d. B, ρ: the addresses of what may change -/
inductive RV (ρ : List Addr) (H : Hp) : D → V → Prop
  | non : RV ρ H .non .non
  | bl (b : Bool) : RV ρ H (.bl b) (.bl b)
  | int (i : Int) : RV ρ H (.int i) (.int i)
  | str (x : Str) : RV ρ H (.str x) (.str x)
  | tup {a vs ds} : TupAt B ρ H a vs → RVs ρ H ds vs → RV ρ H (.tup ds) (.ref a)
  | lst {a vs ds} : a ∉ B → a ∉ ρ → H a = some (.lst vs) → RVs ρ H ds vs → RV ρ H (.lst ds) (.ref a)
  | scr {a vs ds} : ScrAt K B ρ H a vs → RVs ρ H ds vs → RV ρ H (.scr ds) (.ref a)
  | loc {n a} : ρ[n]? = some a → RV ρ H (.loc n) (.ref a)
  | glob {v : V} : v ≠ .non → RV ρ H (.glob v) v
inductive RVs (ρ : List Addr) (H : Hp) : List D → List V → Prop
  | nil : RVs ρ H [] []
  | cons {d v ds vs} : RV ρ H d v → RVs ρ H ds vs → RVs ρ H (d :: ds) (v :: vs)
end
end

section
variable {K : PySem.W.Frag} {B ρ : List Addr} {H : Hp} {ds es : List D} {vs ws : List V}
theorem RVs.length : ∀ {ds : List D} {vs : List V}, RVs K B ρ H ds vs → ds.length = vs.length
  | _, _, .nil => rfl
  | _, _, .cons _ r => by rw [List.length_cons, List.length_cons, RVs.length r]
theorem RVs.get : ∀ {ds : List D} {vs : List V} {i : Nat} {d : D}, RVs K B ρ H ds vs → ds[i]? = some d → ∃ v, vs[i]? = some v ∧ RV K B ρ H d v
  | _, _, _, _, .nil, e => by simp at e
  | _, _, 0, _, .cons r _, e => by simp at e; subst e; exact ⟨_, rfl, r⟩
  | _, _, i + 1, d, .cons _ t, e => by
    obtain ⟨v, h1, h2⟩ := RVs.get (i := i) (d := d) t (by simpa using e)
    exact ⟨v, by simpa using h1, h2⟩
theorem RVs.get' : ∀ {ds : List D} {vs : List V} {i : Nat} {v : V}, RVs K B ρ H ds vs → vs[i]? = some v → ∃ d, ds[i]? = some d ∧ RV K B ρ H d v
  | _, _, _, _, .nil, e => by simp at e
  | _, _, 0, _, .cons r _, e => by simp at e; subst e; exact ⟨_, rfl, r⟩
  | _, _, i + 1, d, .cons _ t, e => by
    obtain ⟨v, h1, h2⟩ := RVs.get' (i := i) t (by simpa using e)
    exact ⟨v, by simpa using h1, h2⟩
theorem RVs.append : ∀ {ds es : List D} {vs ws : List V}, RVs K B ρ H ds vs → RVs K B ρ H es ws → RVs K B ρ H (ds ++ es) (vs ++ ws)
  | _, _, _, _, .nil, s => s
  | _, _, _, _, .cons r t, s => .cons r (RVs.append t s)
theorem RVs.set {d : D} {v : V} (r : RV K B ρ H d v) : ∀ {ds : List D} {vs : List V} (i : Nat), RVs K B ρ H ds vs → RVs K B ρ H (ds.set i d) (vs.set i v)
  | _, _, _, .nil => .nil
  | _, _, 0, .cons _ t => .cons r t
  | _, _, i + 1, .cons q t => .cons q (RVs.set r i t)
theorem RVs.take : ∀ {ds : List D} {vs : List V} (n : Nat), RVs K B ρ H ds vs → RVs K B ρ H (ds.take n) (vs.take n)
  | _, _, 0, _ => .nil
  | _, _, _ + 1, .nil => .nil
  | _, _, n + 1, .cons r t => .cons r (RVs.take n t)
theorem RVs.drop : ∀ {ds : List D} {vs : List V} (n : Nat), RVs K B ρ H ds vs → RVs K B ρ H (ds.drop n) (vs.drop n)
  | _, _, 0, r => r
  | _, _, _ + 1, .nil => .nil
  | _, _, n + 1, .cons _ t => RVs.drop n t
theorem RVs.reverse (h : RVs K B ρ H ds vs) : RVs K B ρ H ds.reverse vs.reverse := by
  induction ds generalizing vs with
  | nil => cases h; exact .nil
  | cons d ds ih => cases h with | cons r t => rw [List.reverse_cons, List.reverse_cons]; exact (ih t).append (.cons r .nil)
theorem RVs.dropLast (h : RVs K B ρ H ds vs) : RVs K B ρ H ds.dropLast vs.dropLast := by
  rw [List.dropLast_eq_take, List.dropLast_eq_take, ← h.length]; exact h.take _
theorem RVs.rep (h : RVs K B ρ H ds vs) : ∀ k : Nat, RVs K B ρ H (List.replicate k ds).flatten (List.replicate k vs).flatten
  | 0 => .nil
  | k + 1 => by rw [List.replicate_succ, List.replicate_succ, List.flatten_cons, List.flatten_cons]; exact h.append (h.rep k)
theorem TupAt.sq {a : Addr} (h : TupAt B ρ H a vs) : SqT K H a vs := .inl (.inl h.2.2)
theorem ScrAt.sq {a : Addr} (h : ScrAt K B ρ H a vs) : SqL K H a vs := h.elim (fun h => .inl h.2.2) .inr

/-- what changes: nothing that stands, but at ρ; new addresses are told -/
structure Post (L ρ : List Addr) (H : Hp) (ρ' : List Addr) (H' : Hp) : Prop where
  ext : ∀ a u, (a ∉ ρ ∨ a ∈ L) → H a = some u → H' a = some u
  pre : ∃ t, ρ' = ρ ++ t
  new : ∀ a, a ∈ ρ' → a ∈ ρ ∨ H a = none
theorem Post.refl {L : List Addr} : Post L ρ H ρ H := ⟨fun _ _ _ h => h, ⟨[], by simp⟩, fun _ h => .inl h⟩
theorem Post.trans {L ρ1 ρ2 : List Addr} {H1 H2 : Hp} (a : Post L ρ H ρ1 H1) (b : Post L ρ1 H1 ρ2 H2) : Post L ρ H ρ2 H2 where
  ext := fun p u hp h => b.ext p u (hp.imp (fun hp z => (a.new p z).elim hp fun z => by rw [h] at z; cases z) id) (a.ext p u hp h)
  pre := by
    obtain ⟨t, e⟩ := a.pre
    obtain ⟨s, e'⟩ := b.pre
    exact ⟨t ++ s, by rw [e', e, List.append_assoc]⟩
  new := fun p hp => (b.new p hp).elim (a.new p) fun z => by
    by_cases q : p ∈ ρ
    · exact .inl q
    · cases e : H p with
      | none => exact .inr rfl
      | some u => rw [a.ext p u (.inl q) e] at z; cases z
theorem Post.rd {L ρ' : List Addr} {H' : Hp} (p : Post L ρ H ρ' H') {a : Addr} {u : HO} (h : a ∉ ρ) (r : Rd H a u) : Rd H' a u :=
  r.elim (fun r => .inl (p.ext a _ (.inl h) r)) fun ⟨o, r⟩ => .inr ⟨o, p.ext a _ (.inl h) r⟩
theorem Post.out {L ρ' : List Addr} {H' : Hp} (p : Post L ρ H ρ' H') {a : Addr} {u : HO} (h : a ∉ ρ) (r : H a = some u) : a ∉ ρ' := fun z => (p.new a z).elim h fun z => by rw [r] at z; cases z
theorem Post.outR {L ρ' : List Addr} {H' : Hp} (p : Post L ρ H ρ' H') {a : Addr} {u : HO} (h : a ∉ ρ) (r : Rd H a u) : a ∉ ρ' := r.elim (p.out h) fun ⟨_, r⟩ => p.out h r
theorem Post.at {L ρ' : List Addr} {H' : Hp} (p : Post L ρ H ρ' H') {n : Nat} {a : Addr} (h : ρ[n]? = some a) : ρ'[n]? = some a := by
  obtain ⟨t, rfl⟩ := p.pre
  rw [List.getElem?_append_left (List.getElem?_eq_some_iff.mp h).1]; exact h
mutual
theorem RV.mono {L ρ' : List Addr} {H' : Hp} (p : Post L ρ H ρ' H') : ∀ (d : D) (v : V), RV K B ρ H d v → RV K B ρ' H' d v
  | .und, _, h => nomatch h
  | .non, _, .non => .non
  | .bl _, _, .bl _ => .bl _
  | .int _, _, .int _ => .int _
  | .str _, _, .str _ => .str _
  | .tup ds, _, .tup h r => .tup ⟨h.1, p.out h.2.1 h.2.2, p.ext _ _ (.inl h.2.1) h.2.2⟩ (RVs.mono p ds _ r)
  | .lst ds, _, .lst h1 h2 h r => .lst h1 (p.out h2 h) (p.ext _ _ (.inl h2) h) (RVs.mono p ds _ r)
  | .scr ds, _, .scr h r => .scr (h.imp (fun h => ⟨h.1, p.outR h.2.1 h.2.2, p.rd h.2.1 h.2.2⟩) id) (RVs.mono p ds _ r)
  | .loc _, _, .loc h => .loc (p.at h)
  | .glob _, _, .glob h => .glob h
theorem RVs.mono {L ρ' : List Addr} {H' : Hp} (p : Post L ρ H ρ' H') : ∀ (ds : List D) (vs : List V), RVs K B ρ H ds vs → RVs K B ρ' H' ds vs
  | [], _, .nil => .nil
  | d :: ds, _, .cons h r => .cons (RV.mono p d _ h) (RVs.mono p ds _ r)
end
end

/-- the environment: a slot that holds a tree holds its value -/
structure RE (K : PySem.W.Frag) (B ρ : List Addr) (H : Hp) (env : En) (σ : L2.St) : Prop where
  len : env.length = σ.length
  at' : ∀ (i : Nat) (d : D), env[i]? = some d → d = .und ∨ ∃ v, σ[i]? = some (some v) ∧ RV K B ρ H d v
theorem RE.mono {K : PySem.W.Frag} {B L ρ ρ' : List Addr} {H H' : Hp} {env : En} {σ : L2.St} (h : RE K B ρ H env σ) (p : Post L ρ H ρ' H') : RE K B ρ' H' env σ :=
  ⟨h.len, fun i d e => (h.at' i d e).imp id fun ⟨v, e1, r⟩ => ⟨v, e1, r.mono p⟩⟩
theorem RE.set {K : PySem.W.Frag} {B ρ : List Addr} {H : Hp} {env : En} {σ : L2.St} {d : D} {v : V} (h : RE K B ρ H env σ) (i : Nat) (r : RV K B ρ H d v) : RE K B ρ H (env.set i d) (σ.set i (some v)) :=
  ⟨by simp [h.len], fun j e q => by
    by_cases hj : i = j
    · subst hj
      rw [List.getElem?_set] at q
      split at q
      · split at q
        · cases q
          refine .inr ⟨v, ?_, r⟩
          rw [List.getElem?_set_self (by rw [← h.len]; assumption)]
        · cases q
      · exact absurd rfl ‹_›
    · rw [List.getElem?_set_ne hj] at q
      rw [List.getElem?_set_ne hj]
      exact h.at' j e q⟩
def undE : En → List Nat → En
  | e, [] => e
  | e, v :: vs => (undE e vs).set v .und
theorem undE_length (e : En) : ∀ vs : List Nat, (undE e vs).length = e.length
  | [] => rfl
  | v :: vs => by unfold undE; rw [List.length_set, undE_length e vs]
theorem RE.wipe {K : PySem.W.Frag} {B ρ : List Addr} {H : Hp} {env : En} {σ : L2.St} (h : RE K B ρ H env σ) : ∀ vs : List Nat, RE K B ρ H (undE env vs) (wipe σ vs)
  | [] => h
  | v :: vs => by
    have ih := h.wipe vs
    refine ⟨by unfold undE L2.wipe; simp [ih.len], fun j e q => ?_⟩
    unfold undE at q
    unfold L2.wipe
    by_cases hj : v = j
    · subst hj
      rw [List.getElem?_set] at q
      split at q
      · split at q
        · cases q; exact .inl rfl
        · cases q
      · exact absurd rfl ‹_›
    · rw [List.getElem?_set_ne hj] at q
      rw [List.getElem?_set_ne hj]
      exact ih.at' j e q

/-- a dict whose keys are tuples: its object alone. ents: the key, its tuple's address, the value -/
def DctRaw (P : Program) (w : World) (a : Addr) (ents : List (NestedKey × Addr × V)) (h : Heap) : Prop :=
  ents.length ≤ sizeLine ∧ (a == sysModules) = false ∧ (ents.map (·.1)).Nodup ∧ ∃ xs : List (NestedKey × Addr × Value), Paired (fun (p : NestedKey × Addr × V) (q : NestedKey × Addr × Value) => p.1 = q.1 ∧ p.2.1 = q.2.1 ∧ RelV p.2.2 q.2.2) ents xs ∧
    ∃ o es ep, h.get? a = some o ∧ o.ExactDict ∧ o.data = .dict es ep ∧ es.toList = xs.map (entryOfKey (nestedKind P w))
def dx (P : Program) (w : World) (a : Addr) (ents : List (NestedKey × Addr × V)) : HO := .ext (DctRaw P w a ents)
mutual
def D.key : D → Option NestedKey
  | .non => some .none
  | .int i => some (.num i)
  | .tup ks => (D.keys ks).map .tup
  | _ => none
def D.keys : List D → Option (List NestedKey)
  | [] => some []
  | d :: ds => match D.key d, D.keys ds with
    | some k, some ks => some (k :: ks)
    | _, _ => none
end
structure Pg where
  P : Program
  w : World
  K : PySem.W.Frag
section
variable (G : Sf.Pg) (B L ρ : List Addr) (H : Hp)
inductive RKs : List (D × D) → List (NestedKey × Addr × V) → Prop
  | nil : RKs [] []
  | cons {k d nk ka v kvs ents} : D.key k = some nk → RV G.K B ρ H k (.ref ka) → nk.depth ≤ 8 → RV G.K B ρ H d v → RKs kvs ents → RKs ((k, d) :: kvs) ((nk, ka, v) :: ents)
inductive RIs : List (Int × D) → List (Key × V) → Prop
  | nil : RIs [] []
  | cons {i d v kvs ents} : RV G.K B ρ H d v → RIs kvs ents → RIs ((i, d) :: kvs) ((Sum.inl i, v) :: ents)
inductive RFs : List (Str × D) → List (Str × V) → Prop
  | nil : RFs [] []
  | cons {f d v fs ents} : RV G.K B ρ H d v → RFs fs ents → RFs ((f, d) :: fs) ((f, v) :: ents)
def LkAt (lk : Bool) (a : Addr) (u : HO) : Prop := if lk = true then a ∈ L ∧ ∃ od, H a = some (.frz od u) else H a = some u
/-- the class of the objects -/
def BdIn (K : PySem.W.Frag) (C : Addr) : Prop := PySem.W.nsIn K mainGlobals "Board" = some (some (.ref C))
/-- what stands at a for an object of the store -/
def RO (a : Addr) : Ob → Prop
  | .lst ds => ∃ vs, H a = some (.lst vs) ∧ RVs G.K B ρ H ds vs
  | .dct lk kvs => ∃ ents, LkAt L H lk a (dx G.P G.w a ents) ∧ RKs G B ρ H kvs ents
  | .dki lk kvs => ∃ ents, LkAt L H lk a (.dK ents) ∧ RIs G B ρ H kvs ents
  | .ins fs => ∃ C dx ents, BdIn G.K C ∧ H a = some (.ins C dx ents) ∧ RFs G B ρ H fs ents
/-- the store as it stands -/
structure RH (S : Sto) : Prop where
  len : ρ.length = S.length
  nd : ρ.Nodup
  dj : ∀ a, a ∈ ρ → a ∉ B
  avo : ∀ b, b ∈ B → ∃ u, H b = some u
  lk : ∀ a, a ∈ L → ∃ o u, H a = some (.frz o u)
  ob : ∀ (n : Nat) (a : Addr) (o : Ob), ρ[n]? = some a → S[n]? = some o → RO G B L ρ H a o
end
section
variable {G : Pg} {B L ρ ρ' : List Addr} {H H' : Hp} {S : Sto}
theorem RKs.mono (p : Post L ρ H ρ' H') : ∀ {kvs ents}, RKs G B ρ H kvs ents → RKs G B ρ' H' kvs ents
  | _, _, .nil => .nil
  | _, _, .cons h1 h2 h3 h4 r => .cons h1 (h2.mono p) h3 (h4.mono p) (r.mono p)
theorem RIs.mono (p : Post L ρ H ρ' H') : ∀ {kvs ents}, RIs G B ρ H kvs ents → RIs G B ρ' H' kvs ents
  | _, _, .nil => .nil
  | _, _, .cons h1 r => .cons (h1.mono p) (r.mono p)
theorem RFs.mono (p : Post L ρ H ρ' H') : ∀ {kvs ents}, RFs G B ρ H kvs ents → RFs G B ρ' H' kvs ents
  | _, _, .nil => .nil
  | _, _, .cons h1 r => .cons (h1.mono p) (r.mono p)
theorem RH.there (R : RH G B L ρ H S) {n : Nat} {a : Addr} (h : ρ[n]? = some a) : ∃ u, H a = some u := by
  have hn : n < S.length := by rw [← R.len]; exact (List.getElem?_eq_some_iff.mp h).1
  have q := R.ob n a _ h (List.getElem?_eq_getElem hn)
  cases e : S[n] with
  | lst ds => rw [e] at q; obtain ⟨vs, q, _⟩ := q; exact ⟨_, q⟩
  | dct lk kvs =>
    rw [e] at q; obtain ⟨vs, q, _⟩ := q
    cases lk with
    | true => obtain ⟨_, _, q⟩ := q; exact ⟨_, q⟩
    | false => exact ⟨_, q⟩
  | dki lk kvs =>
    rw [e] at q; obtain ⟨vs, q, _⟩ := q
    cases lk with
    | true => obtain ⟨_, _, q⟩ := q; exact ⟨_, q⟩
    | false => exact ⟨_, q⟩
  | ins fs => rw [e] at q; obtain ⟨_, _, _, _, q, _⟩ := q; exact ⟨_, q⟩
theorem RH.someM (R : RH G B L ρ H S) {a : Addr} (h : a ∈ ρ) : ∃ u, H a = some u := by
  obtain ⟨n, h⟩ := List.mem_iff_getElem?.mp h
  exact R.there h
theorem RH.fresh (R : RH G B L ρ H S) {p : Addr} (h : H p = none) : p ∉ ρ ∧ p ∉ B :=
  ⟨fun z => (by obtain ⟨u, e⟩ := R.someM z; rw [h] at e; cases e), fun z => (by obtain ⟨u, e⟩ := R.avo _ z; rw [h] at e; cases e)⟩
/-- the same objects behind a step that writes none of them -/
theorem RO.mono (p : Post L ρ H ρ' H') {a : Addr} {o : Ob} (k : H' a = H a) (h : RO G B L ρ H a o) : RO G B L ρ' H' a o := by
  cases o with
  | lst ds => obtain ⟨vs, e, r⟩ := h; exact ⟨vs, k.trans e, RVs.mono p _ _ r⟩
  | dct lk kvs => obtain ⟨ents, e, r⟩ := h; refine ⟨ents, ?_, r.mono p⟩; unfold LkAt at e ⊢; rw [k]; exact e
  | dki lk kvs => obtain ⟨ents, e, r⟩ := h; refine ⟨ents, ?_, r.mono p⟩; unfold LkAt at e ⊢; rw [k]; exact e
  | ins fs => obtain ⟨C, d, ents, hb, e, r⟩ := h; exact ⟨C, d, ents, hb, k.trans e, r.mono p⟩
/-- a new object that is not of the store -/
theorem Post.newV {p : Addr} {o : HO} (h : H p = none) : Post L ρ H ρ (upd H p o) :=
  ⟨fun a u _ e => by rw [upd_ne (ne_of_none e h)]; exact e, ⟨[], by simp⟩, fun _ h => .inl h⟩
theorem RH.newV (R : RH G B L ρ H S) {p : Addr} {o : HO} (h : H p = none) : RH G B L ρ (upd H p o) S where
  len := R.len
  nd := R.nd
  dj := R.dj
  avo := fun b hb => let ⟨u, e⟩ := R.avo b hb; ⟨u, by rw [upd_ne (ne_of_none e h)]; exact e⟩
  lk := fun b hb => let ⟨ob, u, e⟩ := R.lk b hb; ⟨ob, u, by rw [upd_ne (ne_of_none e h)]; exact e⟩
  ob := fun n a ob h1 h2 => by
    obtain ⟨u, e⟩ := R.there h1
    exact (R.ob n a ob h1 h2).mono (Post.newV h) (upd_ne (ne_of_none e h))
/-- a new object of the store -/
theorem Post.newL {p : Addr} {o : HO} (h : H p = none) : Post L ρ H (ρ ++ [p]) (upd H p o) :=
  ⟨fun a u _ e => by rw [upd_ne (ne_of_none e h)]; exact e, ⟨[p], rfl⟩, fun a z => (List.mem_append.mp z).imp id fun z => by simp at z; rw [z]; exact h⟩
theorem RH.newL (R : RH G B L ρ H S) {p : Addr} {o : HO} {ob : Ob} (h : H p = none) (q : RO G B L (ρ ++ [p]) (upd H p o) p ob) : RH G B L (ρ ++ [p]) (upd H p o) (S ++ [ob]) where
  len := by simp [R.len]
  nd := by
    rw [List.nodup_append]
    refine ⟨R.nd, by simp, fun a ha b hb => ?_⟩
    simp at hb; subst hb
    rintro rfl
    exact (R.fresh h).1 ha
  dj := fun a ha => (List.mem_append.mp ha).elim (R.dj a) fun z => by simp at z; rw [z]; exact (R.fresh h).2
  avo := fun b hb => let ⟨u, e⟩ := R.avo b hb; ⟨u, by rw [upd_ne (ne_of_none e h)]; exact e⟩
  lk := fun b hb => let ⟨ob, u, e⟩ := R.lk b hb; ⟨ob, u, by rw [upd_ne (ne_of_none e h)]; exact e⟩
  ob := fun n a ob' h1 h2 => by
    by_cases hn : n < ρ.length
    · rw [List.getElem?_append_left hn] at h1
      rw [List.getElem?_append_left (by rw [← R.len]; exact hn)] at h2
      obtain ⟨u, e⟩ := R.there h1
      exact (R.ob n a ob' h1 h2).mono (Post.newL h) (upd_ne (ne_of_none e h))
    · have hn' : n = ρ.length := by
        have := (List.getElem?_eq_some_iff.mp h1).1
        simp at this; omega
      subst hn'
      rw [List.getElem?_append_right (Nat.le_refl _)] at h1
      rw [R.len, List.getElem?_append_right (Nat.le_refl _)] at h2
      simp at h1 h2
      subst h1; subst h2
      exact q
/-- an object of the store is written -/
theorem Post.wr {n : Nat} {a : Addr} {o : HO} (h : ρ[n]? = some a) (hl : a ∉ L) : Post L ρ H ρ (upd H a o) :=
  ⟨fun b u hb e => by
    rw [upd_ne]
    · exact e
    · rintro rfl
      exact hb.elim (fun z => z (List.mem_of_getElem? h)) hl, ⟨[], by simp⟩, fun _ h => .inl h⟩
theorem RH.wr (R : RH G B L ρ H S) {n : Nat} {a : Addr} {o : HO} {ob : Ob} (h : ρ[n]? = some a) (hl : a ∉ L) (q : RO G B L ρ (upd H a o) a ob) : RH G B L ρ (upd H a o) (S.set n ob) where
  len := by simp [R.len]
  nd := R.nd
  dj := R.dj
  avo := fun b hb => let ⟨u, e⟩ := R.avo b hb; ⟨u, by
    rw [upd_ne]
    · exact e
    · rintro rfl; exact R.dj _ (List.mem_of_getElem? h) hb⟩
  lk := fun b hb => let ⟨ob, u, e⟩ := R.lk b hb; ⟨ob, u, by
    rw [upd_ne]
    · exact e
    · rintro rfl; exact hl hb⟩
  ob := fun m b ob' h1 h2 => by
    by_cases hm : n = m
    · subst hm
      rw [h] at h1; cases h1
      rw [List.getElem?_set_self (by rw [← R.len]; exact (List.getElem?_eq_some_iff.mp h).1)] at h2
      cases h2
      exact q
    · rw [List.getElem?_set_ne hm] at h2
      have hne : b ≠ a := fun e => hm (nodup_ix' R.nd h (e ▸ h1))
      exact (R.ob m b ob' h1 h2).mono (Post.wr h hl) (upd_ne hne)
where
  nodup_ix' {α : Type} {l : List α} (hN : l.Nodup) {i j : Nat} {x : α} (a : l[i]? = some x) (b : l[j]? = some x) : i = j := L2.nd_ix hN a b
theorem RH.notL (R : RH G B L ρ H S) {a : Addr} {u : HO} (h : H a = some u) (hu : ∀ o z, u ≠ .frz o z) : a ∉ L := fun z => by
  obtain ⟨o, w, e⟩ := R.lk a z
  rw [h] at e; cases e; exact hu _ _ rfl
end
end Sf
end

section
set_option Elab.async false
set_option maxRecDepth 100000
set_option linter.all false
/-! Sf2: judgements: an expression is worth a function of the environment and the store. -/
namespace Sf
open PySem PySem.Spec PyProof.Rows L2

abbrev XM := Nat → Value
/-- what is wanted behind an outcome -/
def GO {α β : Type} (G : Pg) (W : WX) (xm : XM) (B L ρ : List Addr) (H : Hp) (σ : L2.St) (rel : List Addr → Hp → α → β → Prop) (r : Out α) (Q : β → Hp → Prop) : Prop :=
  match r with
  | .ok d S' => ∀ v ρ' H', Post L ρ H ρ' H' → RH G B L ρ' H' S' → rel ρ' H' d v → Q v H'
  | .exc c S' => ∀ ρ' H', Post L ρ H ρ' H' → RH G B L ρ' H' S' → W (xm c) none σ H'
  | .bad => False
structure At (G : Pg) (B L ρ : List Addr) (S : Sto) (env : En) (σ : L2.St) (H : Hp) : Prop where
  rh : RH G B L ρ H S
  re : RE G.K B ρ H env σ
theorem At.step {G : Pg} {B L ρ ρ' : List Addr} {S S' : Sto} {env : En} {σ : L2.St} {H H' : Hp} (a : At G B L ρ S env σ H) (p : Post L ρ H ρ' H') (r : RH G B L ρ' H' S') : At G B L ρ' S' env σ H' := ⟨r, a.re.mono p⟩
section
variable {α β : Type} {G : Pg} {W : WX} {xm : XM} {B L ρ ρ' : List Addr} {H H' : Hp} {σ : L2.St} {rel : List Addr → Hp → α → β → Prop} {r : Out α} {Q : β → Hp → Prop}
theorem GO.step (g : GO G W xm B L ρ H σ rel r Q) (p : Post L ρ H ρ' H') : GO G W xm B L ρ' H' σ rel r Q := by
  cases r with
  | ok d S' => exact fun v ρ2 H2 q R x => g v ρ2 H2 (p.trans q) R x
  | exc c S' => exact fun ρ2 H2 q R => g ρ2 H2 (p.trans q) R
  | bad => exact g
end
abbrev rD (G : Pg) (B : List Addr) : List Addr → Hp → D → V → Prop := fun ρ H d v => RV G.K B ρ H d v
abbrev rB : List Addr → Hp → Bool → Bool → Prop := fun _ _ a b => a = b
abbrev rL (G : Pg) (B : List Addr) : List Addr → Hp → List D → List V → Prop := fun ρ H d v => RVs G.K B ρ H d v
abbrev FE := En → Sto → Out D
abbrev FT := En → Sto → Out Bool
abbrev FA := En → Sto → Out (List D)
section
variable (G : Pg) (W : WX) (xm : XM)
def tE (f : FE) : TE := fun σ H Q => ∃ B L ρ S env, At G B L ρ S env σ H ∧ GO G W xm B L ρ H σ (rD G B) (f env S) Q
def tT (f : FT) : TT := fun σ H Q => ∃ B L ρ S env, At G B L ρ S env σ H ∧ GO G W xm B L ρ H σ rB (f env S) Q
def tA (f : FA) : TA := fun σ H Q => ∃ B L ρ S env, At G B L ρ S env σ H ∧ GO G W xm B L ρ H σ (rL G B) (f env S) Q
end
theorem PE.imp {X : Cx} {e : Expr} {t t' : TE} (h : PE X e t) (i : ∀ σ H Q, t' σ H Q → t σ H Q) : PE X e t' := ⟨fun pins s σ H Q I q => h.run pins s σ H Q I (i σ H Q q)⟩
theorem PT.imp {X : Cx} {e : Expr} {t t' : TT} (h : PT X e t) (i : ∀ σ H Q, t' σ H Q → t σ H Q) : PT X e t' := ⟨fun pins s σ H Q I q => h.run pins s σ H Q I (i σ H Q q)⟩
theorem PW.imp {X : Cx} {e : Expr} {t t' : TT} (h : PW X e t) (i : ∀ σ H Q, t' σ H Q → t σ H Q) : PW X e t' := ⟨fun wh pins s σ H Q I q => h.run wh pins s σ H Q I (i σ H Q q)⟩
theorem PA.imp {X : Cx} {es : List Expr} {t t' : TA} (h : PA X es t) (i : ∀ σ H Q, t' σ H Q → t σ H Q) : PA X es t' := ⟨fun pos pins s σ H Q I q => h.run pos pins s σ H Q I (i σ H Q q)⟩
theorem PS.imp {X : Cx} {st : Stmt} {t t' : TS} (h : PS X st t) (i : ∀ D σ H, t' D σ H → t D σ H) : PS X st t' := ⟨fun pins s σ H D I q => h.run pins s σ H D I (i D σ H q)⟩
theorem PSs.imp {X : Cx} {st : List Stmt} {t t' : TS} (h : PSs X st t) (i : ∀ D σ H, t' D σ H → t D σ H) : PSs X st t' := ⟨fun pins s σ H D I q => h.run pins s σ H D I (i D σ H q)⟩

/-- the program's parts as X has them -/
abbrev pg (X : Cx) : Pg := ⟨X.prog, X.w, X.K⟩
/-- X, its wish W about exceptions, the exceptions' classes -/
structure Wx where
  W : WX
  xm : XM
abbrev SE (X : Cx) (w : Wx) (e : Expr) (f : FE) : Prop := PE X e (tE (pg X) w.W w.xm f)
abbrev ST (X : Cx) (w : Wx) (e : Expr) (f : FT) : Prop := PT X e (tT (pg X) w.W w.xm f)
abbrev SW (X : Cx) (w : Wx) (e : Expr) (f : FT) : Prop := PW X e (tT (pg X) w.W w.xm f)
abbrev SA (X : Cx) (w : Wx) (es : List Expr) (f : FA) : Prop := PA X es (tA (pg X) w.W w.xm f)

/-! ### functions -/
def Out.bind {α β : Type} (r : Out α) (k : α → Sto → Out β) : Out β := match r with
  | .ok a S => k a S
  | .exc c S => .exc c S
  | .bad => .bad
def fVar (i : Nat) : FE := fun env S => match env[i]? with
  | some d => match d with
    | .und => .bad
    | d => .ok d S
  | none => .bad
def fCon (d : D) : FE := fun _ S => .ok d S
/-- an operation by values: it raises nothing -/
abbrev Op1 := D → Sto → Option (D × Sto)
abbrev Op2 := D → D → Sto → Option (D × Sto)
abbrev OpN := List D → Sto → Option (D × Sto)
def outO {α : Type} : Option (α × Sto) → Out α
  | some (d, S) => .ok d S
  | none => .bad
def fOp1 (g : Op1) (a : FE) : FE := fun env S => (a env S).bind fun x S1 => outO (g x S1)
def fOp2 (g : Op2) (a b : FE) : FE := fun env S => (a env S).bind fun x S1 => (b env S1).bind fun y S2 => outO (g x y S2)
def fNil : FA := fun _ S => .ok [] S
def fCons (a : FE) (r : FA) : FA := fun env S => (a env S).bind fun x S1 => (r env S1).bind fun xs S2 => .ok (x :: xs) S2
def fOpN (g : OpN) (a : FA) : FE := fun env S => (a env S).bind fun xs S1 => outO (g xs S1)
/-- a value as a bool, as a test -/
def asB : D → Option Bool
  | .bl b => some b
  | _ => none
def tVal (a : FE) : FT := fun env S => (a env S).bind fun x S1 => match x with
  | .bl b => .ok b S1
  | _ => .bad
def tAnd (a b : FT) : FT := fun env S => (a env S).bind fun x S1 => bif x then b env S1 else .ok false S1
def tOr (a b : FT) : FT := fun env S => (a env S).bind fun x S1 => bif x then .ok true S1 else b env S1
def tNot (a : FT) : FT := fun env S => (a env S).bind fun x S1 => .ok (!x) S1
def fIf (c : FT) (a b : FE) : FE := fun env S => (c env S).bind fun x S1 => bif x then a env S1 else b env S1
def fAnd (a b : FE) : FE := fun env S => (a env S).bind fun x S1 => match x with
  | .bl c => bif c then b env S1 else .ok (.bl false) S1
  | _ => .bad
def fOr (a b : FE) : FE := fun env S => (a env S).bind fun x S1 => match x with
  | .bl c => bif c then .ok (.bl true) S1 else b env S1
  | _ => .bad
def fNot (a : FE) : FE := fun env S => (a env S).bind fun x S1 => match x with
  | .bl c => .ok (.bl (!c)) S1
  | _ => .bad

section
variable {X : Cx} {w : Wx} {G : Pg} {W : WX} {xm : XM} {e a b c : Expr} {es rest : List Expr} {f fa fb fc : FE} {ft ft' : FT} {fs : FA} {pos : Pos}
/-- the first part of a bind -/
theorem tE_bind {α β : Type} {rel : List Addr → List Addr → Hp → α → β → Prop} {B L ρ S env σ H} {k : D → Sto → Out α} {Q : β → Hp → Prop} (A : At G B L ρ S env σ H) (g : GO G W xm B L ρ H σ (rel B) ((f env S).bind k) Q) :
    tE G W xm f σ H fun x H1 => ∃ B L ρ S d, At G B L ρ S env σ H1 ∧ RV G.K B ρ H1 d x ∧ GO G W xm B L ρ H1 σ (rel B) (k d S) Q := by
  refine ⟨B, L, ρ, S, env, A, ?_⟩
  revert g
  cases f env S with
  | ok d S' => exact fun g v ρ' H' p R r => ⟨B, L, ρ', S', d, A.step p R, r, GO.step g p⟩
  | exc c S' => exact fun g => g
  | bad => exact fun g => g
theorem tT_bind {α β : Type} {rel : List Addr → List Addr → Hp → α → β → Prop} {B L ρ S env σ H} {k : Bool → Sto → Out α} {Q : β → Hp → Prop} (A : At G B L ρ S env σ H) (g : GO G W xm B L ρ H σ (rel B) ((ft env S).bind k) Q) :
    tT G W xm ft σ H fun x H1 => ∃ B L ρ S, At G B L ρ S env σ H1 ∧ GO G W xm B L ρ H1 σ (rel B) (k x S) Q := by
  refine ⟨B, L, ρ, S, env, A, ?_⟩
  revert g
  cases ft env S with
  | ok d S' => exact fun g v ρ' H' p R r => ⟨B, L, ρ', S', A.step p R, by cases r; exact GO.step g p⟩
  | exc c S' => exact fun g => g
  | bad => exact fun g => g
theorem tA_bind {α β : Type} {rel : List Addr → List Addr → Hp → α → β → Prop} {B L ρ S env σ H} {k : List D → Sto → Out α} {Q : β → Hp → Prop} (A : At G B L ρ S env σ H) (g : GO G W xm B L ρ H σ (rel B) ((fs env S).bind k) Q) :
    tA G W xm fs σ H fun x H1 => ∃ B L ρ S d, At G B L ρ S env σ H1 ∧ RVs G.K B ρ H1 d x ∧ GO G W xm B L ρ H1 σ (rel B) (k d S) Q := by
  refine ⟨B, L, ρ, S, env, A, ?_⟩
  revert g
  cases fs env S with
  | ok d S' => exact fun g v ρ' H' p R r => ⟨B, L, ρ', S', d, A.step p R, r, GO.step g p⟩
  | exc c S' => exact fun g => g
  | bad => exact fun g => g
theorem tE_bind2 {α β : Type} {rel : List Addr → List Addr → Hp → α → β → Prop} {B L ρ S env σ H} {k : D → D → Sto → Out α} {Q : β → Hp → Prop} (A : At G B L ρ S env σ H) (g : GO G W xm B L ρ H σ (rel B) ((fa env S).bind fun x S1 => (fb env S1).bind fun y S2 => k x y S2) Q) :
    tE G W xm fa σ H fun x H1 => tE G W xm fb σ H1 fun y H2 => ∃ B L ρ S d d', At G B L ρ S env σ H2 ∧ RV G.K B ρ H2 d x ∧ RV G.K B ρ H2 d' y ∧ GO G W xm B L ρ H2 σ (rel B) (k d d' S) Q := by
  refine ⟨B, L, ρ, S, env, A, ?_⟩
  revert g
  cases fa env S with
  | ok d S' =>
    intro g v ρ' H' p R r
    have g' := GO.step g p
    refine ⟨B, L, ρ', S', env, A.step p R, ?_⟩
    revert g'
    show GO G W xm B L ρ' H' σ (rel B) ((fb env S').bind fun y S2 => k d y S2) Q → _
    cases fb env S' with
    | ok d' S2 => exact fun g' v2 ρ2 H2 p2 R2 r2 => ⟨B, L, ρ2, S2, d, d', (A.step p R).step p2 R2, r.mono p2, r2, GO.step g' p2⟩
    | exc c S' => exact fun g => g
    | bad => exact fun g => g
  | exc c S' => exact fun g => g
  | bad => exact fun g => g

/-! ### what an operation's rule asks, answered by its function -/
abbrev Ok1 (G : Pg) (r : V → Hp → VK → Prop) (g : Op1) : Prop := ∀ (B L ρ : List Addr) (S S' : Sto) (H : Hp) (d d' : D) (x : V) (Q : VK), RH G B L ρ H S → RV G.K B ρ H d x → g d S = some (d', S') →
  (∀ v ρ' H', Post L ρ H ρ' H' → RH G B L ρ' H' S' → RV G.K B ρ' H' d' v → Q v H') → r x H Q
abbrev Ok2 (G : Pg) (r : R2) (g : Op2) : Prop := ∀ (B L ρ : List Addr) (S S' : Sto) (H : Hp) (d1 d2 d' : D) (x y : V) (Q : VK), RH G B L ρ H S → RV G.K B ρ H d1 x → RV G.K B ρ H d2 y → g d1 d2 S = some (d', S') →
  (∀ v ρ' H', Post L ρ H ρ' H' → RH G B L ρ' H' S' → RV G.K B ρ' H' d' v → Q v H') → r x y H Q
abbrev OkN (G : Pg) (r : List V → Hp → VK → Prop) (g : OpN) : Prop := ∀ (B L ρ : List Addr) (S S' : Sto) (H : Hp) (ds : List D) (d' : D) (xs : List V) (Q : VK), RH G B L ρ H S → RVs G.K B ρ H ds xs → g ds S = some (d', S') →
  (∀ v ρ' H', Post L ρ H ρ' H' → RH G B L ρ' H' S' → RV G.K B ρ' H' d' v → Q v H') → r xs H Q
theorem GO.outO {α β : Type} {rel : List Addr → Hp → α → β → Prop} {B L ρ H σ} {r : Option (α × Sto)} {Q : β → Hp → Prop} (g : GO G W xm B L ρ H σ rel (Sf.outO r) Q) : ∃ d S', r = some (d, S') ∧ ∀ v ρ' H', Post L ρ H ρ' H' → RH G B L ρ' H' S' → rel ρ' H' d v → Q v H' := by
  cases r with
  | none => exact g.elim
  | some p => obtain ⟨d, S'⟩ := p; exact ⟨d, S', rfl, g⟩
/-- an outcome that is there -/
theorem GO.ok0 {α β : Type} {rel : List Addr → Hp → α → β → Prop} {B L ρ H σ S env} {d : α} {Q : β → Hp → Prop} {v : β} (g : GO G W xm B L ρ H σ rel (.ok d S) Q) (A : At G B L ρ S env σ H) (r : rel ρ H d v) : Q v H := g v ρ H Post.refl A.rh r

theorem GO.mono {α β : Type} {rel : List Addr → Hp → α → β → Prop} {B L ρ H σ} {r : Out α} {Q Q' : β → Hp → Prop} (g : GO G W xm B L ρ H σ rel r Q) (h : ∀ v H', Q v H' → Q' v H') : GO G W xm B L ρ H σ rel r Q' := by
  cases r with
  | ok d S' => exact fun v ρ' H' p R r => h _ _ (g v ρ' H' p R r)
  | exc c S' => exact g
  | bad => exact g
theorem tE_mono {σ H Q Q'} (h : tE G W xm f σ H Q) (i : ∀ v H', Q v H' → Q' v H') : tE G W xm f σ H Q' := let ⟨B, L, ρ, S, env, A, g⟩ := h; ⟨B, L, ρ, S, env, A, g.mono i⟩
theorem tT_mono {σ H Q Q'} (h : tT G W xm ft σ H Q) (i : ∀ v H', Q v H' → Q' v H') : tT G W xm ft σ H Q' := let ⟨B, L, ρ, S, env, A, g⟩ := h; ⟨B, L, ρ, S, env, A, g.mono i⟩
theorem tA_mono {σ H Q Q'} (h : tA G W xm fs σ H Q) (i : ∀ v H', Q v H' → Q' v H') : tA G W xm fs σ H Q' := let ⟨B, L, ρ, S, env, A, g⟩ := h; ⟨B, L, ρ, S, env, A, g.mono i⟩
theorem se_imp {t : TE} (h : PE X e t) (i : ∀ σ H Q, tE (pg X) w.W w.xm f σ H Q → t σ H Q) : SE X w e f := PE.imp h i
theorem se_var {i : Nat} {x : Str} (h : PE X (.Name x pos) (tVar i)) : SE X w (.Name x pos) (fVar i) := by
  refine PE.imp h fun σ H Q ⟨B, L, ρ, S, env, A, g⟩ => ?_
  unfold fVar at g
  cases q : env[i]? with
  | none => rw [q] at g; exact g.elim
  | some d =>
    rw [q] at g
    rcases A.re.at' i d q with z | ⟨v, e1, r⟩
    · subst z; exact g.elim
    · refine ⟨v, e1, ?_⟩
      cases d
      case und => cases r
      all_goals exact GO.ok0 g A r
theorem se_con {v : V} {d : D} (h : PE X e (tC v)) (r : ∀ B ρ H, RV X.K B ρ H d v) : SE X w e (fCon d) := by
  refine PE.imp h fun σ H Q ⟨B, L, ρ, S, env, A, g⟩ => ?_
  exact GO.ok0 g A (r _ _ _)
theorem se_int {i : Int} {j} : SE X w (.Constant (.int i) j pos) (fCon (.int i)) := se_con pe_int fun _ _ _ => .int i
theorem se_bl {i : Bool} {j} : SE X w (.Constant (.bool i) j pos) (fCon (.bl i)) := se_con pe_bl fun _ _ _ => .bl i
theorem se_non {j} : SE X w (.Constant .none j pos) (fCon .non) := se_con pe_non fun _ _ _ => .non
theorem se_str {x : Str} {j} : SE X w (.Constant (.str x) j pos) (fCon (.str x)) := se_con pe_str fun _ _ _ => .str x
theorem go_op1 {r : V → Hp → VK → Prop} {g : Op1} (h : Ok1 (pg X) r g) {σ H Q env} {B L ρ : List Addr} {S : Sto} (A : At (pg X) B L ρ S env σ H) (gg : GO (pg X) w.W w.xm B L ρ H σ (rD (pg X) B) ((fa env S).bind fun x S1 => outO (g x S1)) Q) :
    tE (pg X) w.W w.xm fa σ H fun x H1 => r x H1 Q :=
  tE_mono (tE_bind (rel := rD (pg X)) A gg) fun x H1 ⟨B, L, ρ, S, d, A, r, g⟩ => let ⟨d', S', e, q⟩ := g.outO; h B L ρ S S' H1 d d' x Q A.rh r e q
theorem go_op2 {r : R2} {g : Op2} (h : Ok2 (pg X) r g) {σ H Q env} {B L ρ : List Addr} {S : Sto} (A : At (pg X) B L ρ S env σ H) (gg : GO (pg X) w.W w.xm B L ρ H σ (rD (pg X) B) (fOp2 g fa fb env S) Q) :
    tE (pg X) w.W w.xm fa σ H fun x H1 => tE (pg X) w.W w.xm fb σ H1 fun y H2 => r x y H2 Q :=
  tE_mono (tE_bind2 (rel := rD (pg X)) A gg) fun x H1 h1 => tE_mono h1 fun y H2 ⟨B, L, ρ, S, d, d2, A, r, r2, g⟩ => let ⟨d', S', e, q⟩ := g.outO; h B L ρ S S' H2 d d2 d' x y Q A.rh r r2 e q
theorem se_bin {op : Operator} {r : R2} {g : Op2} (ho : OpR X (binaryOp op) r) (h : Ok2 (pg X) r g) (ha : SE X w a fa) (hb : SE X w b fb) : SE X w (.BinOp a op b pos) (fOp2 g fa fb) :=
  PE.imp (pe_op ho ha hb) fun σ H Q ⟨B, L, ρ, S, env, A, gg⟩ => go_op2 h A gg
theorem se_un {op : UnaryOp} {r : V → Hp → VK → Prop} {g : Op1} (ho : UnR X (unaryOp op) r) (h : Ok1 (pg X) r g) (ha : SE X w a fa) : SE X w (.UnaryOp op a pos) (fOp1 g fa) :=
  PE.imp (pe_un ho ha) fun σ H Q ⟨B, L, ρ, S, env, A, gg⟩ => go_op1 h A gg
theorem se_cmp {op : CmpOp} {r : R2} {g : Op2} (ho : OpR X (compareOp op) r) (h : Ok2 (pg X) r g) (ha : SE X w a fa) (hb : SE X w b fb) (hm : behindInMarks op b = false := by rfl) : SE X w (.Compare a [op] [b] pos) (fOp2 g fa fb) :=
  PE.imp (pe_cmpR ho ha hb hm) fun σ H Q ⟨B, L, ρ, S, env, A, gg⟩ => go_op2 h A gg
/-- an item -/
theorem se_ix {r : R2} {g : Op2} (ho : IxR X r) (h : Ok2 (pg X) r g) (ha : SE X w a fa) (hb : SE X w b fb) (hs : PlainIx b := by intro _ _; rfl) : SE X w (.Subscript a b pos) (fOp2 g fa fb) :=
  PE.imp (pe_ix ho ha hb hs) fun σ H Q ⟨B, L, ρ, S, env, A, gg⟩ => go_op2 h A gg
/-- a value as a test: what the value's test is worth -/
theorem st_val (h : SE X w e f) (he : ∀ whole, isTrue e X.env whole = (do let v ← whole; standAt e.pos; holding [v] (truthy v)) := by intro _; rfl) : ST X w e (tVal f) := by
  refine PT.imp (pt_val h he) fun σ H Q ⟨B, L, ρ, S, env, A, gg⟩ => ?_
  refine tE_mono (tE_bind (rel := fun _ => rB) (f := f) A gg) fun x H1 ⟨B, L, ρ, S, d, A, r, g⟩ => ?_
  cases r with
  | bl c => exact ⟨c, rfl, GO.ok0 g A rfl⟩
  | _ => exact g.elim
/-- a comparison as a test -/
theorem st_cmp {op : CmpOp} {r : R2} {g : Op2} (ho : OpR X (compareOp op) r) (h : Ok2 (pg X) r g) (ha : SE X w a fa) (hb : SE X w b fb) (hm : behindInMarks op b = false := by rfl) : ST X w (.Compare a [op] [b] pos) (tVal (fOp2 g fa fb)) := by
  refine PT.imp (pt_cmpR ho ha hb hm) fun σ H Q ⟨B, L, ρ, S, env, A, gg⟩ => ?_
  have key : tE (pg X) w.W w.xm (fOp2 g fa fb) σ H fun x H1 => ∃ k, x = .bl k ∧ Q k H1 := by
    refine tE_mono (tE_bind (rel := fun _ => rB) (f := fOp2 g fa fb) A gg) fun x H1 ⟨B, L, ρ, S, d, A, r, g⟩ => ?_
    cases r with
    | bl c => exact ⟨c, rfl, GO.ok0 g A rfl⟩
    | _ => exact g.elim
  obtain ⟨B, L, ρ, S, env, A, gg⟩ := key
  exact go_op2 h A gg
theorem st_not (h : ST X w a ft) : ST X w (.UnaryOp .Not a pos) (tNot ft) :=
  PT.imp (pt_not h) fun σ H Q ⟨B, L, ρ, S, env, A, gg⟩ => tT_mono (tT_bind (rel := fun _ => rB) A gg) fun x H1 ⟨B, L, ρ, S, A, g⟩ => GO.ok0 g A rfl
theorem sw_and1 (h : ST X w a ft) : SW X w (.BoolOp .And [a] pos) ft := pw_and1 h
theorem sw_or1 (h : ST X w a ft) : SW X w (.BoolOp .Or [a] pos) ft := pw_or1 h
theorem sw_and (ha : ST X w a ft) (hb : SW X w (.BoolOp .And (b :: rest) pos) ft') : SW X w (.BoolOp .And (a :: b :: rest) pos) (Sf.tAnd ft ft') :=
  PW.imp (pw_and ha hb) fun σ H Q ⟨B, L, ρ, S, env, A, gg⟩ => tT_mono (tT_bind (rel := fun _ => rB) A gg) fun x H1 ⟨B, L, ρ, S, A, g⟩ => by
    cases x with
    | true => exact iteT ⟨B, L, ρ, S, env, A, g⟩
    | false => exact iteF (GO.ok0 g A rfl)
theorem sw_or (ha : ST X w a ft) (hb : SW X w (.BoolOp .Or (b :: rest) pos) ft') : SW X w (.BoolOp .Or (a :: b :: rest) pos) (Sf.tOr ft ft') :=
  PW.imp (pw_or ha hb) fun σ H Q ⟨B, L, ρ, S, env, A, gg⟩ => tT_mono (tT_bind (rel := fun _ => rB) A gg) fun x H1 ⟨B, L, ρ, S, A, g⟩ => by
    cases x with
    | true => exact iteT (GO.ok0 g A rfl)
    | false => exact iteF ⟨B, L, ρ, S, env, A, g⟩
theorem st_bool (h : SW X w e ft) : ST X w e ft := PW.pt h
theorem se_if (hc : ST X w c ft) (ha : SE X w a fa) (hb : SE X w b fb) : SE X w (.IfExp c a b pos) (fIf ft fa fb) :=
  PE.imp (pe_ifExp hc ha hb) fun σ H Q ⟨B, L, ρ, S, env, A, gg⟩ => tT_mono (tT_bind (rel := rD (pg X)) A gg) fun x H1 ⟨B, L, ρ, S, A, g⟩ => by
    cases x with
    | true => exact iteT ⟨B, L, ρ, S, env, A, g⟩
    | false => exact iteF ⟨B, L, ρ, S, env, A, g⟩
theorem se_one {op} (h : SE X w a f) : SE X w (.BoolOp op [a] pos) f := pe_one h
theorem se_and (ha : SE X w a fa) (hb : SE X w (.BoolOp .And (b :: rest) pos) fb) : SE X w (.BoolOp .And (a :: b :: rest) pos) (fAnd fa fb) :=
  PE.imp (pe_and ha hb) fun σ H Q ⟨B, L, ρ, S, env, A, gg⟩ => tE_mono (tE_bind (rel := rD (pg X)) A gg) fun x H1 ⟨B, L, ρ, S, d, A, r, g⟩ => by
    cases r with
    | bl c =>
      refine ⟨c, rfl, ?_⟩
      cases c with
      | true => exact iteT ⟨B, L, ρ, S, env, A, g⟩
      | false => exact iteF (GO.ok0 g A (.bl _))
    | _ => exact g.elim
theorem se_or (ha : SE X w a fa) (hb : SE X w (.BoolOp .Or (b :: rest) pos) fb) : SE X w (.BoolOp .Or (a :: b :: rest) pos) (fOr fa fb) :=
  PE.imp (pe_or ha hb) fun σ H Q ⟨B, L, ρ, S, env, A, gg⟩ => tE_mono (tE_bind (rel := rD (pg X)) A gg) fun x H1 ⟨B, L, ρ, S, d, A, r, g⟩ => by
    cases r with
    | bl c =>
      refine ⟨c, rfl, ?_⟩
      cases c with
      | true => exact iteT (GO.ok0 g A (.bl _))
      | false => exact iteF ⟨B, L, ρ, S, env, A, g⟩
    | _ => exact g.elim
theorem se_not (ha : SE X w a fa) : SE X w (.UnaryOp .Not a pos) (fNot fa) :=
  PE.imp (pe_not ha) fun σ H Q ⟨B, L, ρ, S, env, A, gg⟩ => tE_mono (tE_bind (rel := rD (pg X)) A gg) fun x H1 ⟨B, L, ρ, S, d, A, r, g⟩ => by
    cases r with
    | bl c => exact ⟨c, rfl, GO.ok0 g A (.bl _)⟩
    | _ => exact g.elim
theorem sa_nil : SA X w [] fNil := PA.imp pa_nil fun σ H Q ⟨B, L, ρ, S, env, A, gg⟩ => GO.ok0 gg A .nil
theorem sa_cons (ha : SE X w a fa) (hr : SA X w es fs) (hs : starEach (a :: es) X.env = (false, eval a X.env) :: starEach es X.env := by rfl) : SA X w (a :: es) (fCons fa fs) := by
  refine PA.imp (pa_cons ha hr hs) fun σ H Q ⟨B, L, ρ, S, env, A, gg⟩ => ?_
  refine ⟨B, L, ρ, S, env, A, ?_⟩
  revert gg
  unfold fCons
  cases fa env S with
  | ok d S' =>
    intro g v ρ' H' p R r
    have g' := GO.step g p
    refine ⟨B, L, ρ', S', env, A.step p R, ?_⟩
    revert g'
    show GO (pg X) w.W w.xm B L ρ' H' σ (rL (pg X) B) ((fs env S').bind fun y S2 => .ok (d :: y) S2) Q → _
    cases fs env S' with
    | ok d' S2 => exact fun g' v2 ρ2 H2 p2 R2 r2 => g' _ ρ2 H2 p2 R2 (.cons (r.mono p2) r2)
    | exc c S' => exact fun g => g
    | bad => exact fun g => g
  | exc c S' => exact fun g => g
  | bad => exact fun g => g
theorem go_opN {r : List V → Hp → VK → Prop} {g : OpN} (h : OkN (pg X) r g) {σ H Q env} {B L ρ : List Addr} {S : Sto} (A : At (pg X) B L ρ S env σ H) (gg : GO (pg X) w.W w.xm B L ρ H σ (rD (pg X) B) (fOpN g fs env S) Q) :
    tA (pg X) w.W w.xm fs σ H fun x H1 => r x H1 Q :=
  tA_mono (tA_bind (rel := rD (pg X)) A gg) fun x H1 ⟨B, L, ρ, S, d, A, r, g⟩ => let ⟨d', S', e, q⟩ := g.outO; h B L ρ S S' H1 d d' x Q A.rh r e q
/-- f(e, ..), f a built-in function; T(e, ..) -/
theorem se_callB {x : Str} {p : Pos} {id : String} {r : List V → Hp → VK → Prop} {g : OpN} (hc : CallR X (.builtin id) r) (h : OkN (pg X) r g) (ha : SA X w (e :: es) fs) (hg : Gl X x) (hm : X.mg x = none) (hv : bootBuiltins x = some (.builtin id)) (hn : x ≠ "__name__" := by decide) (hdb : (x == ("__debug__" : Str)) = false := by decide)
    (he : starEach (e :: es) X.env = (false, eval e X.env) :: starEach es X.env := by rfl) (hpl : (backTo pos (starEach es X.env)).any (·.1) = false := by rfl) : SE X w (.Call (.Name x p) (e :: es) [] pos) (fOpN g fs) :=
  PE.imp (pe_callB hc hg hm hv ha hn hdb he hpl) fun σ H Q ⟨B, L, ρ, S, env, A, gg⟩ => go_opN h A gg
theorem se_callTy {x : Str} {p : Pos} {T : String} {r : List V → Hp → VK → Prop} {g : OpN} (hc : CallR X (.type T) r) (h : OkN (pg X) r g) (ha : SA X w (e :: es) fs) (hg : Gl X x) (hm : X.mg x = none) (hv : bootBuiltins x = some (.type T)) (hn : x ≠ "__name__" := by decide) (hdb : (x == ("__debug__" : Str)) = false := by decide)
    (he : starEach (e :: es) X.env = (false, eval e X.env) :: starEach es X.env := by rfl) (hpl : (backTo pos (starEach es X.env)).any (·.1) = false := by rfl) : SE X w (.Call (.Name x p) (e :: es) [] pos) (fOpN g fs) :=
  PE.imp (pe_callTy hc hg hm hv ha hn hdb he hpl) fun σ H Q ⟨B, L, ρ, S, env, A, gg⟩ => go_opN h A gg
end
end Sf
end

section
set_option Elab.async false
set_option maxRecDepth 100000
set_option linter.all false
/-! Sf3: the operations by values. -/
namespace Sf
open PySem PySem.Spec PyProof.Rows L2

/-- what a list's place holds -/
def lsW : D → Sto → Option (List D)
  | .lst l, _ => some l
  | .loc n, S => match S[n]? with
    | some (.lst l) => some l
    | _ => none
  | _, _ => none
def lsR : D → Sto → Option (List D)
  | .scr l, _ => some l
  | d, S => lsW d S
def mkL (m : Bool) (l : List D) (S : Sto) : Option (D × Sto) := bif fit l.length then (bif m then some (.loc S.length, S ++ [.lst l]) else some (.lst l, S)) else none
def intsD : List D → Option (List Int)
  | [] => some []
  | .int i :: r => match intsD r with
    | some ns => some (i :: ns)
    | none => none
  | _ :: _ => none
def blsD : List D → Option (List Bool)
  | [] => some []
  | .bl i :: r => match blsD r with
    | some ns => some (i :: ns)
    | none => none
  | _ :: _ => none

section
variable {G : Pg} {B L ρ : List Addr} {S S' : Sto} {H : Hp} {d d' : D} {x : V} {l : List D} {Q : VK}
theorem lsW_ok (R : RH G B L ρ H S) (r : RV G.K B ρ H d x) (e : lsW d S = some l) : ∃ a vs, x = .ref a ∧ H a = some (.lst vs) ∧ RVs G.K B ρ H l vs := by
  cases r with
  | lst h1 h2 h3 h4 => cases e; exact ⟨_, _, rfl, h3, h4⟩
  | @loc n a h =>
    unfold lsW at e
    simp only at e
    cases q : S[n]? with
    | none => rw [q] at e; cases e
    | some o =>
      rw [q] at e
      cases o with
      | lst ds => cases e; obtain ⟨vs, h1, h2⟩ := R.ob n a _ h q; exact ⟨_, _, rfl, h1, h2⟩
      | _ => cases e
  | _ => cases e
theorem lsR_ok (R : RH G B L ρ H S) (r : RV G.K B ρ H d x) (e : lsR d S = some l) : ∃ a vs, x = .ref a ∧ SqL G.K H a vs ∧ RVs G.K B ρ H l vs := by
  cases r with
  | scr h1 h2 => cases e; exact ⟨_, _, rfl, h1.sq, h2⟩
  | lst h1 h2 h3 h4 => obtain ⟨a, vs, e1, e2, e3⟩ := lsW_ok R (.lst h1 h2 h3 h4) e; exact ⟨a, vs, e1, .inl (.inl e2), e3⟩
  | loc h => obtain ⟨a, vs, e1, e2, e3⟩ := lsW_ok R (.loc h) e; exact ⟨a, vs, e1, .inl (.inl e2), e3⟩
  | _ => cases e
theorem intsD_ok : ∀ {l : List D} {ns : List Int} {vs : List V}, RVs G.K B ρ H l vs → intsD l = some ns → vs = ns.map V.int
  | [], _, _, .nil, e => by cases e; rfl
  | d :: r, ns, _, .cons h t, e => by
    cases h with
    | int i =>
      unfold intsD at e
      cases q : intsD r with
      | none => rw [q] at e; cases e
      | some ms => rw [q] at e; cases e; rw [intsD_ok t q]; rfl
    | _ => cases e
theorem blsD_ok : ∀ {l : List D} {ns : List Bool} {vs : List V}, RVs G.K B ρ H l vs → blsD l = some ns → vs = ns.map V.bl
  | [], _, _, .nil, e => by cases e; rfl
  | d :: r, ns, _, .cons h t, e => by
    cases h with
    | bl i =>
      unfold blsD at e
      cases q : blsD r with
      | none => rw [q] at e; cases e
      | some ms => rw [q] at e; cases e; rw [blsD_ok t q]; rfl
    | _ => cases e
abbrev Fin (G : Pg) (B L ρ : List Addr) (H : Hp) (S' : Sto) (d' : D) (Q : VK) : Prop := ∀ v ρ' H', Post L ρ H ρ' H' → RH G B L ρ' H' S' → RV G.K B ρ' H' d' v → Q v H'
theorem here (q : Fin G B L ρ H S' d' Q) (R : RH G B L ρ H S') (r : RV G.K B ρ H d' x) : Q x H := q x ρ H Post.refl R r
theorem mkL_ok {m : Bool} {vs : List V} (R : RH G B L ρ H S) (r : RVs G.K B ρ H l vs) (e : mkL m l S = some (d', S')) (q : Fin G B L ρ H S' d' Q) : vs.length ≤ sizeLine ∧ ∀ p, H p = none → Q (.ref p) (upd H p (.lst vs)) := by
  unfold mkL at e
  cases hf : fit l.length with
  | false => rw [hf] at e; cases e
  | true =>
    rw [hf] at e
    refine ⟨by rw [← r.length]; exact fit_le hf, fun p hp => ?_⟩
    cases m with
    | false =>
      cases e
      exact q _ ρ _ (Post.newV hp) (R.newV hp) (.lst (R.fresh hp).2 (R.fresh hp).1 upd_same (RVs.mono (Post.newV (L := L) hp) _ _ r))
    | true =>
      cases e
      refine q _ (ρ ++ [p]) _ (Post.newL hp) (R.newL hp ⟨vs, upd_same, RVs.mono (Post.newL (L := L) hp) _ _ r⟩) (.loc ?_)
      rw [← R.len, List.getElem?_append_right (Nat.le_refl _)]
      simp
theorem mkT_ok {vs : List V} (R : RH G B L ρ H S) (r : RVs G.K B ρ H l vs) (q : Fin G B L ρ H S (.tup l) Q) : ∀ p, H p = none → Q (.ref p) (upd H p (.tup vs)) := fun p hp =>
  q _ ρ _ (Post.newV hp) (R.newV hp) (.tup ⟨(R.fresh hp).2, (R.fresh hp).1, upd_same⟩ (RVs.mono (Post.newV (L := L) hp) _ _ r))
end

section
open HT
theorem tuple_mulW1 (l : Addr) (items : Array Value) (n : Nat) (dd : Option Addr) (sl : Array (Option Value)) (u : Tok) :
    Meets (Builtin.«tuple.__mul__» ⟨[.ref l, .int 1 u], []⟩) (fun _ R s => s.heap.get? l = some { cls := .type "tuple", dict := dd, data := .seq items n, slots := sl } ∧
      R (.ok (.ret (Value.ref l))) s) :=
  .of_wp fun prog w A R s h => by
    obtain ⟨hp, g, d, tk, os⟩ := s
    obtain ⟨hl, h⟩ := h
    have f1 := AutoSeq1.idx_int
    have ht : Shared.TypeIs ⟨hp, g, d, tk, os⟩ (.ref l) "tuple" := ⟨_, hl, rfl⟩
    wp_walk using wpAny_loadPart' hl
    exact ⟨_, rfl, h⟩
/-- t * 1 is t itself -/
def rRepT1 (K : PySem.W.Frag) : R2 := fun x y H Q => ∃ l xs, x = .ref l ∧ y = .int 1 ∧ SqT K H l xs ∧ Q (.ref l) H
theorem op_repT1 {X : Cx} : OpR X (binaryOp .Mult) (rRepT1 X.K) := by
  intro pins s σ H x y v u Q I rx ry h
  obtain ⟨l, xs, rfl, rfl, hT, q⟩ := h
  cases rx
  obtain ⟨t, rfl⟩ := ry
  obtain ⟨its, r, ⟨⟨cls, dd, data, sl⟩, ho, hc, n, hd⟩, hs⟩ := I.tuple hT
  simp only at hc hd
  subst hc hd
  exact wpAny_binaryOp_repeat_ref (T := "tuple") (U := "int") (by decide) ⟨_, ho, rfl⟩ (fun s' => typeIs_int s' 1 t) noFill_tuple_mul F.fills_int_mul F.slot_int_rmul repeat_tuple F.slot_int_index.lookup
    (call_meets F.slot_int_rmul (typeIs_int s 1 t) F.entry_int_rmul (F.args_int_rmul_2 _ _) (int_rmul_tuple 1 t l its.toArray n dd sl)
      ⟨ho, rfl, ⟨_, ho, rfl⟩, call_meets F.slot_tuple_mul ⟨_, ho, rfl⟩ F.entry_tuple_mul (F.args_tuple_mul_2 _ _) (tuple_mulW1 l its.toArray n dd sl t) ⟨ho, ⟨.ref l, H, I, rfl, q⟩⟩⟩)
end
/-! ### arithmetic -/
def oAdd (m : Bool) : Op2 := fun x y S => match x, y with
  | .int i, .int j => some (.int (i + j), S)
  | .str a, .str b => bif fit (a.length + b.length) then some (.str (a ++ b), S) else none
  | .tup a, .tup b => bif fit (a.length + b.length) then some (.tup (a ++ b), S) else none
  | x, y => match lsW x S, lsW y S with
    | some a, some b => mkL m (a ++ b) S
    | _, _ => none
def oSub : Op2 := fun x y S => match x, y with
  | .int i, .int j => some (.int (i - j), S)
  | _, _ => none
def mulOk (i j : Int) : Bool := Nat.blt i.natAbs 18446744073709551616 || Nat.blt j.natAbs 18446744073709551616 || Nat.blt (i.natAbs.log2 + j.natAbs.log2) 1000000
def oMul (m : Bool) : Op2 := fun x y S => match x, y with
  | .int i, .int j => bif mulOk i j then some (.int (i * j), S) else none
  | .tup l, .int k => bif decide (k = 1) then some (.tup l, S) else bif (!l.isEmpty) && Nat.ble l.length 1000 && decide (2 ≤ k) && decide (k ≤ 1000) then some (.tup (List.replicate k.toNat l).flatten, S) else none
  | x, .int k => match lsW x S with
    | some l => bif decide (-1000000 ≤ k) && decide (k ≤ 1000000) && fit (l.length * k.toNat) then mkL m (List.replicate k.toNat l).flatten S else none
    | none => none
  | _, _ => none
def oFdiv : Op2 := fun x y S => match x, y with
  | .int i, .int j => bif (decide (0 < j)) && Nat.blt j.natAbs.log2 9000 then some (.int (i / j), S) else
      bif (decide (j < 0)) && Nat.blt j.natAbs.log2 9000 then some (.int (i.fdiv j), S) else none
  | _, _ => none
def oMod : Op2 := fun x y S => match x, y with
  | .int i, .int j => bif (decide (0 < j)) then some (.int (i % j), S) else none
  | _, _ => none
def oPow : Op2 := fun x y S => match x, y with
  | .int i, .int j => bif (decide (0 ≤ j)) && (decide (j ≤ 1000000)) && Nat.blt i.natAbs 18446744073709551616 then some (.int (i ^ j.toNat), S) else none
  | _, _ => none
def oNeg : Op1 := fun x S => match x with
  | .int i => some (.int (-i), S)
  | _ => none

section
variable {X : Cx}
abbrev rAddR (K : PySem.W.Frag) : R2 := fun x y H Q => rI0 (fun i j => .int (i + j)) x y H Q ∨ (∃ i j, x = .str i ∧ y = .str j ∧ i.length + j.length ≤ sizeLine ∧ Q (.str (i ++ j)) H) ∨ rCatA K x y H Q ∨ rCat x y H Q
theorem opr_add : OpR X (binaryOp .Add) (rAddR X.K) := op_add.or (op_add_str.or (op_catA.or op_cat))
theorem ok_add {m : Bool} : Ok2 (pg X) (rAddR X.K) (oAdd m) := by
  intro B L ρ S S' H d1 d2 d' x y Q R r1 r2 e q
  have gen : (match lsW d1 S, lsW d2 S with
    | some a, some b => mkL m (a ++ b) S
    | _, _ => none) = some (d', S') → rAddR X.K x y H Q := by
    intro e
    cases e1 : lsW d1 S with
    | none => rw [e1] at e; cases e
    | some a =>
      cases e2 : lsW d2 S with
      | none => rw [e1, e2] at e; cases e
      | some b =>
        rw [e1, e2] at e
        obtain ⟨p, vs, rfl, hp, rv⟩ := lsW_ok R r1 e1
        obtain ⟨p', vs', rfl, hp', rv'⟩ := lsW_ok R r2 e2
        obtain ⟨z, q⟩ := mkL_ok R (rv.append rv') e q
        exact .inr (.inr (.inr ⟨p, p', vs, vs', rfl, rfl, hp, hp', by simpa using z, q⟩))
  cases r1 with
  | int i =>
    cases r2 with
    | int j => cases e; exact .inl ⟨i, j, rfl, rfl, here q R (.int _)⟩
    | _ => exact gen e
  | str a =>
    cases r2 with
    | str b =>
      unfold oAdd at e
      cases hf : fit (a.length + b.length) with
      | false => simp [hf] at e
      | true => simp [hf] at e; obtain ⟨rfl, rfl⟩ := e; exact .inr (.inl ⟨a, b, rfl, rfl, fit_le hf, here q R (.str _)⟩)
    | _ => exact gen e
  | @tup a vs ds h1 h2 =>
    cases r2 with
    | @tup b ws es k1 k2 =>
      unfold oAdd at e
      cases hf : fit (ds.length + es.length) with
      | false => simp [hf] at e
      | true =>
        simp [hf] at e; obtain ⟨rfl, rfl⟩ := e
        refine .inr (.inr (.inl ⟨a, b, vs, ws, rfl, rfl, h1.sq, k1.sq, by rw [← h2.length, ← k2.length]; exact fit_le hf, fun z => ?_, fun _ z => ?_, fun _ _ p hp => ?_⟩))
        · subst z
          cases h2
          exact here q R (.tup k1 (by simpa using k2))
        · subst z
          cases k2
          exact here q R (.tup h1 (by simpa using h2))
        · exact mkT_ok R (h2.append k2) q p hp
    | _ => exact gen e
  | _ => exact gen e
theorem ok_sub : Ok2 (pg X) (rI0 fun i j => .int (i - j)) oSub := by
  intro B L ρ S S' H d1 d2 d' x y Q R r1 r2 e q
  cases r1 with
  | int i =>
    cases r2 with
    | int j => cases e; exact ⟨i, j, rfl, rfl, here q R (.int _)⟩
    | _ => cases e
  | _ => cases e
theorem mulOk_ok {i j : Int} (h : mulOk i j = true) : CMul i j ∨ CMulW i j := by
  unfold mulOk at h
  rw [Bool.or_eq_true, Bool.or_eq_true] at h
  rcases h with (h | h) | h
  · have h := Nat.le_of_ble_eq_true h
    exact .inl (.inl (by omega))
  · have h := Nat.le_of_ble_eq_true h
    exact .inl (.inr (by omega))
  · exact .inr (Nat.le_of_ble_eq_true h)
abbrev rMulR (K : PySem.W.Frag) : R2 := fun x y H Q => (rI CMul (fun i j => .int (i * j)) x y H Q ∨ rI CMulW (fun i j => .int (i * j)) x y H Q) ∨ rRepT K x y H Q ∨ rRep x y H Q ∨ rRepT1 K x y H Q
theorem opr_mul : OpR X (binaryOp .Mult) (rMulR X.K) := (op_mul.or op_mulW).or (op_repT.or (op_rep.or op_repT1))
theorem ok_mul {m : Bool} : Ok2 (pg X) (rMulR X.K) (oMul m) := by
  intro B L ρ S S' H d1 d2 d' x y Q R r1 r2 e q
  have gen : ∀ k : Int, y = .int k → (match lsW d1 S with
    | some l => bif decide (-1000000 ≤ k) && decide (k ≤ 1000000) && fit (l.length * k.toNat) then mkL m (List.replicate k.toNat l).flatten S else none
    | none => none) = some (d', S') → rMulR X.K x y H Q := by
    intro k hy e
    subst hy
    cases e1 : lsW d1 S with
    | none => rw [e1] at e; cases e
    | some l =>
      rw [e1] at e
      obtain ⟨p, vs, rfl, hp, rv⟩ := lsW_ok R r1 e1
      simp only at e
      cases hf : (decide (-1000000 ≤ k) && decide (k ≤ 1000000) && fit (l.length * k.toNat)) with
      | false => rw [hf] at e; cases e
      | true =>
        rw [hf] at e
        rw [Bool.and_eq_true, Bool.and_eq_true] at hf
        obtain ⟨⟨h1, h2⟩, h3⟩ := hf
        have h1 := of_decide_eq_true h1
        have h2 := of_decide_eq_true h2
        obtain ⟨z, q⟩ := mkL_ok R (rv.rep k.toNat) e q
        exact .inr (.inr (.inl ⟨p, k, vs, rfl, rfl, hp, by omega, by omega, by rw [← rv.length]; exact fit_le h3, q⟩))
  cases r2 with
  | int k =>
    cases r1 with
    | int i =>
      unfold oMul at e
      cases hf : mulOk i k with
      | false => simp [hf] at e
      | true =>
        simp [hf] at e; obtain ⟨rfl, rfl⟩ := e
        rcases mulOk_ok hf with c | c
        · exact .inl (.inl ⟨i, k, rfl, rfl, c, here q R (.int _)⟩)
        · exact .inl (.inr ⟨i, k, rfl, rfl, c, here q R (.int _)⟩)
    | @tup a vs ds h1 h2 =>
      unfold oMul at e
      simp only at e
      cases h1k : decide (k = 1) with
      | true =>
        rw [h1k] at e
        cases e
        exact .inr (.inr (.inr ⟨a, vs, rfl, by rw [of_decide_eq_true h1k], h1.sq, here q R (.tup h1 h2)⟩))
      | false =>
      rw [h1k] at e
      simp only [cond_false] at e
      cases hf : ((!ds.isEmpty) && Nat.ble ds.length 1000 && decide (2 ≤ k) && decide (k ≤ 1000)) with
      | false => rw [hf] at e; cases e
      | true =>
        rw [hf] at e
        cases e
        rw [Bool.and_eq_true, Bool.and_eq_true, Bool.and_eq_true] at hf
        obtain ⟨⟨⟨g1, g2⟩, g3⟩, g4⟩ := hf
        refine .inr (.inl ⟨a, k, vs, rfl, rfl, h1.sq, ?_, of_decide_eq_true g3, of_decide_eq_true g4, by rw [← h2.length]; exact Nat.le_of_ble_eq_true g2, mkT_ok R (h2.rep _) q⟩)
        rintro rfl
        cases h2
        cases g1
    | _ => exact gen k rfl e
  | _ => cases r1 <;> cases e
abbrev rFdv : R2 := rI (fun _ j => j ≠ 0 ∧ j.natAbs.log2 < 9000) fun i j => .int (i.fdiv j)
theorem opr_fdiv : OpR X (binaryOp .FloorDiv) rFdv := opI fun i j _ _ _ _ _ hc q => floordiv_int hc.1 q (.inl (PyProof.noPylong_of_log2 hc.2))
theorem ok_fdiv : Ok2 (pg X) rFdv oFdiv := by
  intro B L ρ S S' H d1 d2 d' x y Q R r1 r2 e q
  cases r1 with
  | int i =>
    cases r2 with
    | int j =>
      unfold oFdiv at e
      simp only at e
      cases hf : ((decide (0 < j)) && Nat.blt j.natAbs.log2 9000) with
      | true =>
        rw [hf] at e
        cases e
        rw [Bool.and_eq_true] at hf
        have h1 := of_decide_eq_true hf.1
        refine ⟨i, j, rfl, rfl, ⟨by omega, Nat.le_of_ble_eq_true hf.2⟩, ?_⟩
        show Q (.int (i.fdiv j)) H
        rw [Int.fdiv_eq_ediv_of_nonneg i (show (0 : Int) ≤ j by omega)]
        exact here q R (.int _)
      | false =>
        rw [hf] at e
        cases hf : ((decide (j < 0)) && Nat.blt j.natAbs.log2 9000) with
        | true =>
          rw [hf] at e
          cases e
          rw [Bool.and_eq_true] at hf
          have h1 := of_decide_eq_true hf.1
          exact ⟨i, j, rfl, rfl, ⟨by omega, Nat.le_of_ble_eq_true hf.2⟩, here q R (.int _)⟩
        | false => rw [hf] at e; cases e
    | _ => cases e
  | _ => cases e
theorem ok_mod : Ok2 (pg X) (rI (fun _ j => 0 < j) fun i j => .int (i % j)) oMod := by
  intro B L ρ S S' H d1 d2 d' x y Q R r1 r2 e q
  cases r1 with
  | int i =>
    cases r2 with
    | int j =>
      unfold oMod at e
      simp only at e
      cases hf : (decide (0 < j)) with
      | true => rw [hf] at e; cases e; exact ⟨i, j, rfl, rfl, of_decide_eq_true hf, here q R (.int _)⟩
      | false => rw [hf] at e; cases e
    | _ => cases e
  | _ => cases e
theorem ok_pow : Ok2 (pg X) (rI CPow fun i j => .int (i ^ j.toNat)) oPow := by
  intro B L ρ S S' H d1 d2 d' x y Q R r1 r2 e q
  cases r1 with
  | int i =>
    cases r2 with
    | int j =>
      unfold oPow at e
      simp only at e
      cases hf : ((decide (0 ≤ j)) && (decide (j ≤ 1000000)) && Nat.blt i.natAbs 18446744073709551616) with
      | true =>
        rw [hf] at e; cases e
        rw [Bool.and_eq_true, Bool.and_eq_true] at hf
        exact ⟨i, j, rfl, rfl, ⟨of_decide_eq_true hf.1.1, of_decide_eq_true hf.1.2, Nat.le_of_ble_eq_true hf.2⟩, here q R (.int _)⟩
      | false => rw [hf] at e; cases e
    | _ => cases e
  | _ => cases e
theorem ok_neg : Ok1 (pg X) (rU fun i => .int (-i)) oNeg := by
  intro B L ρ S S' H d d' x Q R r e q
  cases r with
  | int i => cases e; exact ⟨i, rfl, here q R (.int _)⟩
  | _ => cases e
end

/-! ### comparisons -/
mutual
def D.py : D → Option PyData
  | .non => some .none
  | .bl b => some (.bool b)
  | .int i => some (.int i)
  | .str x => some (.str x)
  | .tup l => (D.pys l).map .tuple
  | .lst l => (D.pys l).map .list
  | .scr l => (D.pys l).map .list
  | _ => none
def D.pys : List D → Option (List PyData)
  | [] => some []
  | d :: ds => match D.py d, D.pys ds with
    | some k, some ks => some (k :: ks)
    | _, _ => none
end
mutual
theorem py_ok {K : PySem.W.Frag} {B ρ : List Addr} {H : Hp} : ∀ (d : D) (x : V) (p : PyData), RV K B ρ H d x → D.py d = some p → Dp K H x p
  | .und, _, _, h, _ => by cases h
  | .non, _, _, .non, e => by cases e; exact .non
  | .bl b, _, _, .bl _, e => by cases e; exact .bl b
  | .int b, _, _, .int _, e => by cases e; exact .int b
  | .str b, _, _, .str _, e => by cases e; exact .str b
  | .tup l, _, p, .tup h r, e => by
    unfold D.py at e
    cases q : D.pys l with
    | none => rw [q] at e; cases e
    | some ks => rw [q] at e; cases e; exact .tup h.sq (pys_ok l _ ks r q)
  | .lst l, _, p, .lst h1 h2 h r, e => by
    unfold D.py at e
    cases q : D.pys l with
    | none => rw [q] at e; cases e
    | some ks => rw [q] at e; cases e; exact .lst (.inl (.inl h)) (pys_ok l _ ks r q)
  | .scr l, _, p, .scr h r, e => by
    unfold D.py at e
    cases q : D.pys l with
    | none => rw [q] at e; cases e
    | some ks => rw [q] at e; cases e; exact .lst h.sq (pys_ok l _ ks r q)
  | .loc _, _, _, _, e => by cases e
  | .glob _, _, _, _, e => by cases e
theorem pys_ok {K : PySem.W.Frag} {B ρ : List Addr} {H : Hp} : ∀ (ds : List D) (xs : List V) (ps : List PyData), RVs K B ρ H ds xs → D.pys ds = some ps → DpAll K H xs ps
  | [], _, _, .nil, e => by cases e; exact .nil
  | d :: ds, _, ps, .cons h t, e => by
    unfold D.pys at e
    cases q : D.py d with
    | none => rw [q] at e; cases e
    | some k =>
      cases q' : D.pys ds with
      | none => rw [q, q'] at e; cases e
      | some ks => rw [q, q'] at e; cases e; exact .cons (py_ok d _ _ h q) (pys_ok ds _ _ t q')
end
/-- a list's place seen as the list -/
def deref (S : Sto) : D → D
  | .loc n => match S[n]? with
    | some (.lst l) => .lst l
    | _ => .loc n
  | d => d
theorem deref_ok {G : Pg} {B L ρ : List Addr} {S : Sto} {H : Hp} {d : D} {x : V} {p : PyData} (R : RH G B L ρ H S) (r : RV G.K B ρ H d x) (e : D.py (deref S d) = some p) : Dp G.K H x p := by
  cases d with
  | loc n =>
    cases r with
    | @loc _ a h =>
    unfold deref at e
    simp only at e
    cases q : S[n]? with
    | none => rw [q] at e; cases e
    | some o =>
      rw [q] at e
      cases o with
      | lst l =>
        obtain ⟨vs, h1, h2⟩ := R.ob n a _ h q
        simp only at e
        unfold D.py at e
        cases q : D.pys l with
        | none => rw [q] at e; cases e
        | some ks => rw [q] at e; cases e; exact .lst (.inl (.inl h1)) (pys_ok l _ ks h2 q)
      | _ => cases e
  | _ => exact py_ok _ _ _ r e
/-- x == y, as a bool -/
def eqB (x y : D) (S : Sto) : Option Bool := match x, y with
  | .int i, .int j => some (decide (i = j))
  | .non, .non => some true
  | .non, .int _ => some false
  | .int _, .non => some false
  | .bl a, .bl b => some (a == b)
  | .str a, .str b => some (decide (a = b))
  | x, y => match D.py (deref S x), D.py (deref S y) with
    | some p, some q => bif SeqAt.shaped p && SeqAt.shaped q then some (PyData.eqv p q) else none
    | _, _ => none
def oEq : Op2 := fun x y S => match eqB x y S with
  | some b => some (.bl b, S)
  | none => none
def oNe : Op2 := fun x y S => match eqB x y S with
  | some b => some (.bl (!b), S)
  | none => none
def oCmp (p : Int → Int → Bool) (q : List Int → List Int → Bool) : Op2 := fun x y S => match x, y with
  | .int i, .int j => some (.bl (p i j), S)
  | .tup a, .tup b => match intsD a, intsD b with
    | some ns, some ms => some (.bl (q ns ms), S)
    | _, _ => none
  | _, _ => none
def oCmpI (p : Int → Int → Bool) : Op2 := fun x y S => match x, y with
  | .int i, .int j => some (.bl (p i j), S)
  | _, _ => none
abbrev oLt : Op2 := oCmp (fun i j => decide (i < j)) HT.lexLt
abbrev oLe : Op2 := oCmpI fun i j => decide (i ≤ j)
abbrev oGt : Op2 := oCmpI fun i j => decide (j < i)
abbrev oGe : Op2 := oCmpI fun i j => decide (j ≤ i)
def isNon : D → Bool
  | .non => true
  | _ => false
def oIs : Op2 := fun x y S => match y with
  | .non => some (.bl (isNon x), S)
  | .bl b => match x with
    | .bl a => some (.bl (a == b), S)
    | _ => none
  | _ => none
def oIsN : Op2 := fun x y S => match y with
  | .non => some (.bl (!isNon x), S)
  | .bl b => match x with
    | .bl a => some (.bl (!(a == b)), S)
    | _ => none
  | _ => none
section
variable {X : Cx}
abbrev rEqR (K : PySem.W.Frag) : R2 := fun x y H Q => rEq x y H Q ∨ rEqD K x y H Q
abbrev rNeR (K : PySem.W.Frag) : R2 := fun x y H Q => rNe x y H Q ∨ rNeD K x y H Q
theorem opr_eq {k : Nat} (hr : Room k X.A) : OpR X (compareOp .Eq) (rEqR X.K) := op_eq.or (op_eqD hr.units)
theorem opr_ne {k : Nat} (hr : Room k X.A) : OpR X (compareOp .NotEq) (rNeR X.K) := op_ne.or (op_neD hr.units)
theorem eqB_ok {G : Pg} {B L ρ : List Addr} {S : Sto} {H : Hp} {d1 d2 : D} {x y : V} {b : Bool} (R : RH G B L ρ H S) (r1 : RV G.K B ρ H d1 x) (r2 : RV G.K B ρ H d2 y) (e : eqB d1 d2 S = some b) :
    (scal x y = true ∧ decide (x = y) = b) ∨ ∃ p q, Dp G.K H x p ∧ Dp G.K H y q ∧ SeqAt.shaped p = true ∧ SeqAt.shaped q = true ∧ PyData.eqv p q = b := by
  have gen : (match D.py (deref S d1), D.py (deref S d2) with
    | some p, some q => bif SeqAt.shaped p && SeqAt.shaped q then some (PyData.eqv p q) else none
    | _, _ => none) = some b → ∃ p q, Dp G.K H x p ∧ Dp G.K H y q ∧ SeqAt.shaped p = true ∧ SeqAt.shaped q = true ∧ PyData.eqv p q = b := by
    intro e
    cases e1 : D.py (deref S d1) with
    | none => rw [e1] at e; cases e
    | some p =>
      cases e2 : D.py (deref S d2) with
      | none => rw [e1, e2] at e; cases e
      | some q =>
        rw [e1, e2] at e
        simp only at e
        cases hf : (SeqAt.shaped p && SeqAt.shaped q) with
        | false => rw [hf] at e; cases e
        | true =>
          rw [hf] at e
          cases e
          rw [Bool.and_eq_true] at hf
          exact ⟨p, q, deref_ok R r1 e1, deref_ok R r2 e2, hf.1, hf.2, rfl⟩
  cases r1 with
  | int i =>
    cases r2 with
    | int j => cases e; exact .inl ⟨rfl, by simp⟩
    | non => cases e; exact .inl ⟨rfl, by simp⟩
    | _ => exact .inr (gen e)
  | non =>
    cases r2 with
    | int j => cases e; exact .inl ⟨rfl, by simp⟩
    | non => cases e; exact .inl ⟨rfl, by simp⟩
    | _ => exact .inr (gen e)
  | bl a =>
    cases r2 with
    | bl j => cases e; exact .inl ⟨rfl, by rw [dec_bl]⟩
    | _ => exact .inr (gen e)
  | str a =>
    cases r2 with
    | str j => cases e; exact .inl ⟨rfl, decide_eq_decide.mpr ⟨fun z => by cases z; rfl, fun z => by rw [z]⟩⟩
    | _ => exact .inr (gen e)
  | _ => exact .inr (gen e)
theorem ok_eq : Ok2 (pg X) (rEqR X.K) oEq := by
  intro B L ρ S S' H d1 d2 d' x y Q R r1 r2 e q
  unfold oEq at e
  cases h : eqB d1 d2 S with
  | none => rw [h] at e; cases e
  | some b =>
    rw [h] at e; cases e
    rcases eqB_ok R r1 r2 h with ⟨h1, h2⟩ | ⟨p, p', h1, h2, h3, h4, h5⟩
    · exact .inl ⟨h1, by rw [h2]; exact here q R (.bl _)⟩
    · exact .inr ⟨p, p', h1, h2, h3, h4, by rw [h5]; exact here q R (.bl _)⟩
theorem ok_ne : Ok2 (pg X) (rNeR X.K) oNe := by
  intro B L ρ S S' H d1 d2 d' x y Q R r1 r2 e q
  unfold oNe at e
  cases h : eqB d1 d2 S with
  | none => rw [h] at e; cases e
  | some b =>
    rw [h] at e; cases e
    rcases eqB_ok R r1 r2 h with ⟨h1, h2⟩ | ⟨p, p', h1, h2, h3, h4, h5⟩
    · exact .inl ⟨h1, by rw [h2]; exact here q R (.bl _)⟩
    · exact .inr ⟨p, p', h1, h2, h3, h4, by rw [h5]; exact here q R (.bl _)⟩
theorem ok_cmpI {p : Int → Int → Bool} : Ok2 (pg X) (rI0 fun i j => .bl (p i j)) (oCmpI p) := by
  intro B L ρ S S' H d1 d2 d' x y Q R r1 r2 e q
  cases r1 with
  | int i =>
    cases r2 with
    | int j => cases e; exact ⟨i, j, rfl, rfl, here q R (.bl _)⟩
    | _ => cases e
  | _ => cases e
abbrev rLtR (K : PySem.W.Frag) : R2 := fun x y H Q => rI0 (fun i j => .bl (decide (i < j))) x y H Q ∨ rLtT K x y H Q
theorem opr_lt {k : Nat} (hr : Room k X.A) : OpR X (compareOp .Lt) (rLtR X.K) := op_lt.or (op_ltT hr.units0)
theorem ok_lt : Ok2 (pg X) (rLtR X.K) oLt := by
  intro B L ρ S S' H d1 d2 d' x y Q R r1 r2 e q
  cases r1 with
  | int i =>
    cases r2 with
    | int j => cases e; exact .inl ⟨i, j, rfl, rfl, here q R (.bl _)⟩
    | _ => cases e
  | @tup a vs ds h1 h2 =>
    cases r2 with
    | @tup b ws es k1 k2 =>
      unfold oLt oCmp at e
      simp only at e
      cases e1 : intsD ds with
      | none => rw [e1] at e; cases e
      | some ns =>
        cases e2 : intsD es with
        | none => rw [e1, e2] at e; cases e
        | some ms =>
          rw [e1, e2] at e; cases e
          have z1 := intsD_ok h2 e1
          have z2 := intsD_ok k2 e2
          subst z1 z2
          exact .inr ⟨a, b, ns, ms, rfl, rfl, h1.sq, k1.sq, here q R (.bl _)⟩
    | _ => cases e
  | _ => cases e
abbrev rIsR : R2 := fun x y H Q => (y = .non ∧ Q (.bl (decide (x = .non))) H) ∨ rIsB x y H Q
abbrev rIsNR : R2 := fun x y H Q => (y = .non ∧ Q (.bl (!decide (x = .non))) H) ∨ rNotB x y H Q
theorem opr_is : OpR X (compareOp .Is) rIsR := op_isN.or op_isBl
theorem opr_isN : OpR X (compareOp .IsNot) rIsNR := op_notN.or op_notBl
theorem isNon_ok {K : PySem.W.Frag} {B ρ : List Addr} {H : Hp} {d : D} {x : V} (r : RV K B ρ H d x) : decide (x = .non) = isNon d := by
  cases r with
  | glob h => simp [isNon, h]
  | _ => simp [isNon]
theorem ok_is : Ok2 (pg X) rIsR oIs := by
  intro B L ρ S S' H d1 d2 d' x y Q R r1 r2 e q
  cases r2 with
  | non => cases e; exact .inl ⟨rfl, by rw [isNon_ok r1]; exact here q R (.bl _)⟩
  | bl b =>
    cases r1 with
    | bl a =>
      cases e
      refine .inr ⟨a, b, rfl, rfl, ?_⟩
      rw [← Bool.beq_eq_decide_eq]
      exact here q R (.bl _)
    | _ => cases e
  | _ => cases e
theorem ok_isN : Ok2 (pg X) rIsNR oIsN := by
  intro B L ρ S S' H d1 d2 d' x y Q R r1 r2 e q
  cases r2 with
  | non => cases e; exact .inl ⟨rfl, by rw [isNon_ok r1]; exact here q R (.bl _)⟩
  | bl b =>
    cases r1 with
    | bl a =>
      cases e
      refine .inr ⟨a, b, rfl, rfl, ?_⟩
      rw [← Bool.beq_eq_decide_eq]
      exact here q R (.bl _)
    | _ => cases e
  | _ => cases e
end
end Sf
end

section
set_option Elab.async false
set_option maxRecDepth 100000
set_option linter.all false
/-! Sf4: items, slices, built-in functions, methods. -/
namespace Sf
open PySem PySem.Spec PyProof.Rows L2

/-! ### items -/
def ixD (l : List D) (i : Int) : Option D := bif decide (0 ≤ i) then l[i.toNat]? else bif decide (-(l.length : Int) ≤ i) then l[(i + l.length).toNat]? else none
def oIx : Op2 := fun x y S => match y with
  | .int i => match x with
    | .tup l => match ixD l i with
      | some d => some (d, S)
      | none => none
    | x => match lsR x S with
      | some l => match ixD l i with
        | some d => some (d, S)
        | none => none
      | none => none
  | _ => none
section
variable {X : Cx} {G : Pg} {B L ρ : List Addr} {S S' : Sto} {H : Hp} {d d' : D} {x : V} {l : List D} {vs : List V} {Q : VK}
theorem ixD_ok {i : Int} (r : RVs G.K B ρ H l vs) (e : ixD l i = some d) : ∃ v, atI vs i = some v ∧ RV G.K B ρ H d v := by
  unfold ixD at e
  unfold atI ixN
  rw [← r.length]
  by_cases h0 : 0 ≤ i
  · rw [decide_eq_true h0] at e
    obtain ⟨v, e1, r1⟩ := r.get (show l[i.toNat]? = some d from e)
    have hlt : i.toNat < l.length := (List.getElem?_eq_some_iff.mp (show l[i.toNat]? = some d from e)).1
    refine ⟨v, ?_, r1⟩
    rw [if_pos h0, if_pos (by omega)]
    exact e1
  · rw [decide_eq_false h0] at e
    by_cases h1 : -(l.length : Int) ≤ i
    · rw [decide_eq_true h1] at e
      obtain ⟨v, e1, r1⟩ := r.get (show l[(i + l.length).toNat]? = some d from e)
      refine ⟨v, ?_, r1⟩
      rw [if_neg h0, if_pos h1]
      exact e1
    · rw [decide_eq_false h1] at e; cases e
abbrev rIxR (K : PySem.W.Frag) : R2 := fun x y H Q => rIxL K x y H Q ∨ rIxT K x y H Q
theorem ixr : IxR X (rIxR X.K) := ix_list.or ix_tup
theorem ok_ix : Ok2 (pg X) (rIxR X.K) oIx := by
  intro B L ρ S S' H d1 d2 d' x y Q R r1 r2 e q
  cases r2 with
  | int i =>
    have gen : (match lsR d1 S with
      | some l => match ixD l i with
        | some d => some (d, S)
        | none => none
      | none => none) = some (d', S') → rIxR X.K x (.int i) H Q := by
      intro e
      cases e1 : lsR d1 S with
      | none => rw [e1] at e; cases e
      | some l =>
        rw [e1] at e
        simp only at e
        cases e2 : ixD l i with
        | none => rw [e2] at e; cases e
        | some d =>
          rw [e2] at e; cases e
          obtain ⟨a, vs, rfl, h1, h2⟩ := lsR_ok R r1 e1
          obtain ⟨v, e3, r3⟩ := ixD_ok (G := pg X) h2 e2
          exact .inl ⟨a, vs, i, v, rfl, rfl, h1, e3, here q R r3⟩
    cases r1 with
    | @tup a vs ds h1 h2 =>
      unfold oIx at e
      simp only at e
      cases e2 : ixD ds i with
      | none => rw [e2] at e; cases e
      | some d =>
        rw [e2] at e; cases e
        obtain ⟨v, e3, r3⟩ := ixD_ok (G := pg X) h2 e2
        exact .inr ⟨a, vs, i, v, rfl, rfl, h1.sq, e3, here q R r3⟩
    | _ => exact gen e
  | _ => cases e
/-- the same by a bare getItem, of a list -/
theorem pget_list : PGet X (rIxL X.K) := by
  intro pins s σ H o i ov iv Q I ro ri h
  obtain ⟨p, xs, k, z, rfl, rfl, hq, he, q⟩ := h
  cases ro
  obtain ⟨t, rfl⟩ := ri
  obtain ⟨its, r, pl, hz⟩ := I.list hq
  obtain ⟨j, h1, h2, h3, h4, h5⟩ := atI_get he
  obtain ⟨w, ew, rw'⟩ := r.get h2
  have hl := r.length
  have hn := line63
  have fin : EP X pins σ Q w s := ⟨z, H, I, rw', q⟩
  by_cases h0 : 0 ≤ k
  · have hj : k.toNat = j := by
      rw [seqIndex_of h0 h5] at h1
      exact Option.some.inj h1
    exact wpAny_getItem_list (x := w) pl.isList h0 (by omega) (by rw [hj]; simpa using ew) fin
  · have hj : (k + (its.toArray.size : Int)).toNat = j := by
      rw [seqIndex_neg (by omega) h4] at h1
      rw [List.size_toArray, ← hl]
      exact Option.some.inj h1
    exact wpAny_getItem_list_neg pl.isList (by omega) (by rw [List.size_toArray] <;> omega) (by omega) (by rw [hj]; simpa using ew) fin
end

/-! ### slices -/
def cutD (l : List D) (lo hi : Option Int) : List D := (l.drop (HT.sIx l.length 0 lo)).take (HT.sIx l.length l.length hi - HT.sIx l.length 0 lo)
theorem cutD_ok {K : PySem.W.Frag} {B ρ : List Addr} {H : Hp} {l : List D} {vs : List V} (r : RVs K B ρ H l vs) (lo hi : Option Int) : RVs K B ρ H (cutD l lo hi) (cutV vs lo hi) := by
  unfold cutD cutV
  rw [← r.length]
  exact (r.drop _).take _
abbrev FO := En → Sto → Out (Option Int)
def fNoPart : FO := fun _ S => .ok none S
def fPart (f : FE) : FO := fun env S => (f env S).bind fun x S1 => match x with
  | .int i => .ok (some i) S1
  | _ => .bad
abbrev rO : List Addr → Hp → Option Int → Option Int → Prop := fun _ _ a b => a = b
def tO (G : Pg) (W : WX) (xm : XM) (f : FO) : TO := fun σ H Q => ∃ B L ρ S env, At G B L ρ S env σ H ∧ GO G W xm B L ρ H σ rO (f env S) Q
theorem PO.imp {X : Cx} {e : Option Expr} {t t' : TO} (h : PO X e t) (i : ∀ σ H Q, t' σ H Q → t σ H Q) : PO X e t' := ⟨fun pins s σ H Q I q => h.run pins s σ H Q I (i σ H Q q)⟩
abbrev SO' (X : Cx) (w : Wx) (e : Option Expr) (f : FO) : Prop := PO X e (tO (pg X) w.W w.xm f)
section
variable {X : Cx} {w : Wx} {e : Expr} {fe : FE}
theorem so_none : SO' X w none fNoPart := PO.imp po_none fun σ H Q ⟨B, L, ρ, S, env, A, g⟩ => GO.ok0 g A rfl
theorem so_some (h : SE X w e fe) : SO' X w (some e) (fPart fe) := PO.imp (po_some h) fun σ H Q ⟨B, L, ρ, S, env, A, gg⟩ =>
  tE_mono (tE_bind (rel := fun _ => rO) A gg) fun x H1 ⟨B, L, ρ, S, d, A, r, g⟩ => by
    cases r with
    | int i => exact ⟨i, rfl, GO.ok0 g A rfl⟩
    | _ => exact g.elim
end
def wholeB (n : Nat) (lo hi : Option Int) : Bool := Nat.beq (HT.sIx n 0 lo) 0 && Nat.beq (HT.sIx n n hi) n
def oCut (m : Bool) (x : D) (lo hi : Option Int) (S : Sto) : Option (D × Sto) := match x with
  | .tup l => some (.tup (cutD l lo hi), S)
  | x => match lsR x S with
    | some l => mkL m (cutD l lo hi) S
    | none => none
def fCut (m : Bool) (a : FE) (lo hi : FO) : FE := fun env S => (a env S).bind fun x S1 => (lo env S1).bind fun l S2 => (hi env S2).bind fun u S3 => outO (oCut m x l u S3)
section
variable {X : Cx} {w : Wx} {e : Expr} {lo hi : Option Expr} {fe : FE} {fl fh : FO} {p2 pos : Pos}
theorem cutD_whole {l : List D} {lo hi : Option Int} (h : HT.sIx l.length 0 lo = 0 ∧ HT.sIx l.length l.length hi = l.length) : cutD l lo hi = l := by
  unfold cutD; rw [h.1, h.2]; simp
theorem se_cut {m : Bool} (he : SE X w e fe) (hl : SO' X w lo fl) (hh : SO' X w hi fh) : SE X w (.Subscript e (.Slice lo hi none p2) pos) (fCut m fe fl fh) := by
  refine PE.imp (pe_slice (sl_tupA.or sl_list) he hl hh) fun σ H Q ⟨B, L, ρ, S, env, A, gg⟩ => ?_
  refine ⟨B, L, ρ, S, env, A, ?_⟩
  revert gg
  unfold fCut
  cases fe env S with
  | ok d S' =>
    intro g v ρ' H' p R r
    have g' := GO.step g p
    refine ⟨B, L, ρ', S', env, A.step p R, ?_⟩
    revert g'
    show GO (pg X) w.W w.xm B L ρ' H' σ (rD (pg X) B) ((fl env S').bind fun l S2 => (fh env S2).bind fun u S3 => outO (oCut m d l u S3)) Q → _
    cases fl env S' with
    | ok d' S2 =>
      intro g' v2 ρ2 H2 p2 R2 r2
      have g2 := GO.step g' p2
      cases r2
      refine ⟨B, L, ρ2, S2, env, (A.step p R).step p2 R2, ?_⟩
      revert g2
      show GO (pg X) w.W w.xm B L ρ2 H2 σ (rD (pg X) B) ((fh env S2).bind fun u S3 => outO (oCut m d d' u S3)) Q → _
      cases fh env S2 with
      | ok u S3 =>
        intro g2 v3 ρ3 H3 p3 R3 r3
        have g3 := GO.step g2 p3
        cases r3
        obtain ⟨d'', S'', e, q⟩ := GO.outO g3
        have r' : RV X.K B ρ3 H3 d v := (r.mono p2).mono p3
        have gen : (match lsR d S3 with
          | some l => mkL m (cutD l d' u) S3
          | none => none) = some (d'', S'') → rSlA X.K v d' u H3 Q ∨ rSlL X.K v d' u H3 Q := by
          intro e
          cases e1 : lsR d S3 with
          | none => rw [e1] at e; cases e
          | some l =>
            rw [e1] at e
            obtain ⟨a, vs, rfl, h1, h2⟩ := lsR_ok (G := pg X) R3 r' e1
            exact .inr ⟨a, vs, rfl, h1, (mkL_ok R3 (cutD_ok h2 d' u) e q).2⟩
        cases r' with
        | @tup a vs ds h1 h2 =>
          cases e
          refine .inl ⟨a, vs, rfl, h1.sq, fun z => ?_, fun _ => mkT_ok R3 (cutD_ok h2 _ _) q⟩
          rw [← h2.length] at z
          rw [cutD_whole z] at q
          exact here (G := pg X) q R3 (.tup h1 h2)
        | _ => exact gen e
      | exc c S' => exact fun g => g
      | bad => exact fun g => g
    | exc c S' => exact fun g => g
    | bad => exact fun g => g
  | exc c S' => exact fun g => g
  | bad => exact fun g => g
/-- xs[::-1] of a list -/
def oRev (m : Bool) : Op1 := fun x S => match lsR x S with
  | some l => mkL m l.reverse S
  | none => none
theorem se_rev {m : Bool} {k : Nat} {p1 p2 p3 : Pos} (he : SE X w e fe) : SE X w (.Subscript e (.Slice none none (some (.UnaryOp .USub (.Constant (.int 1) k p1) p2)) p3) pos) (fOp1 (oRev m) fe) :=
  PE.imp (pe_revL he) fun σ H Q ⟨B, L, ρ, S, env, A, gg⟩ => go_op1 (X := X) (r := fun x H1 Q => ∃ a xs, x = .ref a ∧ SqL X.K H1 a xs ∧ ∀ p, H1 p = none → Q (.ref p) (upd H1 p (.lst xs.reverse))) (fun B L ρ S S' H d d' x Q R r e q => by
    unfold oRev at e
    cases e1 : lsR d S with
    | none => rw [e1] at e; cases e
    | some l =>
      rw [e1] at e
      obtain ⟨a, vs, rfl, h1, h2⟩ := lsR_ok (G := pg X) R r e1
      exact ⟨a, vs, rfl, h1, (mkL_ok R h2.reverse e q).2⟩) A gg
end

/-! ### built-in functions -/
def oLen : OpN := fun xs S => match xs with
  | [.tup l] => some (.int l.length, S)
  | [.str x] => bif fit x.length then some (.int x.length, S) else none
  | [x] => match lsR x S with
    | some l => some (.int l.length, S)
    | none => none
  | _ => none
def oAbs : OpN := fun xs S => match xs with
  | [.int i] => some (.int (if i < 0 then -i else i), S)
  | _ => none
def oMax2 : OpN := fun xs S => match xs with
  | [.int i, .int j] => some (.int (if j > i then j else i), S)
  | _ => none
def oMax : OpN := fun xs S => match xs with
  | [.tup l] => match intsD l with
    | some (n :: ns) => some (.int (ns.foldl max n), S)
    | _ => none
  | [x] => match lsR x S with
    | some l => match intsD l with
      | some (n :: ns) => some (.int (ns.foldl max n), S)
      | _ => none
    | none => none
  | _ => none
def oMin2 : OpN := fun xs S => match xs with
  | [.int i, .int j] => some (.int (if j < i then j else i), S)
  | _ => none
def oMin : OpN := fun xs S => match xs with
  | [.tup l] => match intsD l with
    | some (n :: ns) => some (.int (ns.foldl min n), S)
    | _ => none
  | [x] => match lsR x S with
    | some l => match intsD l with
      | some (n :: ns) => some (.int (ns.foldl min n), S)
      | _ => none
    | none => none
  | _ => none
def oSum : OpN := fun xs S => match xs with
  | [.tup l] => match intsD l with
    | some ns => some (.int ns.sum, S)
    | _ => none
  | [x] => match lsR x S with
    | some l => match intsD l with
      | some ns => some (.int ns.sum, S)
      | _ => none
    | none => none
  | _ => none
def oAll : OpN := fun xs S => match xs with
  | [x] => match lsR x S with
    | some l => match blsD l with
      | some bs => some (.bl (bs.all id), S)
      | none => none
    | none => none
  | _ => none
def oAny : OpN := fun xs S => match xs with
  | [x] => match lsR x S with
    | some l => match blsD l with
      | some bs => some (.bl (bs.any id), S)
      | none => none
    | none => none
  | _ => none
def oList (m : Bool) : OpN := fun xs S => match xs with
  | [.tup l] => mkL m l S
  | [x] => match lsR x S with
    | some l => mkL m l S
    | none => none
  | _ => none
def oTuple : OpN := fun xs S => match xs with
  | [.tup l] => some (.tup l, S)
  | [x] => match lsR x S with
    | some l => some (.tup l, S)
    | none => none
  | _ => none
/-- a value's type among the built-in ones -/
def tyD (S : Sto) : D → Option String
  | .non => some "NoneType"
  | .bl _ => some "bool"
  | .int _ => some "int"
  | .str _ => some "str"
  | .tup _ => some "tuple"
  | .lst _ => some "list"
  | .loc n => match S[n]? with
    | some (.lst _) => some "list"
    | some (.dki false _) => some "dict"
    | _ => none
  | _ => none
def isaB (a b : String) : Option Bool := match a, b with
  | "bool", "int" => some true
  | "bool", "bool" => some true
  | "int", "int" => some true
  | "str", "str" => some true
  | "tuple", "tuple" => some true
  | "list", "list" => some true
  | "NoneType", "int" => some false | "NoneType", "bool" => some false | "NoneType", "tuple" => some false | "NoneType", "list" => some false | "NoneType", "str" => some false
  | "bool", "tuple" => some false | "bool", "list" => some false | "bool", "str" => some false
  | "int", "bool" => some false | "int", "tuple" => some false | "int", "list" => some false | "int", "str" => some false
  | "str", "int" => some false | "str", "bool" => some false | "str", "tuple" => some false | "str", "list" => some false
  | "tuple", "int" => some false | "tuple", "bool" => some false | "tuple", "list" => some false | "tuple", "str" => some false
  | "list", "int" => some false | "list", "bool" => some false | "list", "tuple" => some false | "list", "str" => some false
  | "dict", "int" => some false | "dict", "bool" => some false | "dict", "tuple" => some false | "dict", "list" => some false | "dict", "str" => some false
  | _, _ => none
def isaAny (a : String) : List D → Option Bool
  | [.glob (.ty n), .glob (.ty m)] => match isaB a n, isaB a m with
    | some b, some c => some (b || c)
    | _, _ => none
  | _ => none
def oIsa : OpN := fun xs S => match xs with
  | [x, .glob (.ty n)] => match tyD S x with
    | some t => match isaB t n with
      | some b => some (.bl b, S)
      | none => none
    | none => none
  | [x, .tup cs] => match tyD S x with
    | some t => match isaAny t cs with
      | some b => some (.bl b, S)
      | none => none
    | none => none
  | _ => none
theorem isaB_ok {a b : String} {r : Bool} (h : isaB a b = some r) : kitB a b = some r := by
  unfold isaB at h
  split at h <;> first | (cases h; decide +kernel) | cases h
section
variable {X : Cx} {K : PySem.W.Frag} {B L ρ : List Addr} {S S' : Sto} {H : Hp}
theorem rvs1 {d : D} {xs : List V} (r : RVs K B ρ H [d] xs) : ∃ x, xs = [x] ∧ RV K B ρ H d x := by
  cases r with
  | cons r t => cases t; exact ⟨_, rfl, r⟩
theorem rvs2 {d d' : D} {xs : List V} (r : RVs K B ρ H [d, d'] xs) : ∃ x y, xs = [x, y] ∧ RV K B ρ H d x ∧ RV K B ρ H d' y := by
  cases r with
  | cons r t =>
    cases t with
    | cons r' t => cases t; exact ⟨_, _, rfl, r, r'⟩
theorem lsR_seq {G : Pg} {d : D} {x : V} {l : List D} (R : RH G B L ρ H S) (r : RV G.K B ρ H d x) (e : lsR d S = some l) : ∃ a vs, x = .ref a ∧ SqL G.K H a vs ∧ RVs G.K B ρ H l vs := lsR_ok R r e
theorem ok_len : OkN (pg X) (fun xs H Q => ∃ x n, xs = [x] ∧ LenV X.K x H n ∧ Q (.int n) H) oLen := by
  intro B L ρ S S' H ds d' xs Q R rs e q
  match ds, e with
  | [d], e =>
    obtain ⟨x, rfl, r⟩ := rvs1 rs
    have gen : (match lsR d S with
      | some l => some (D.int l.length, S)
      | none => none) = some (d', S') → ∃ x' n, [x] = [x'] ∧ LenV X.K x' H n ∧ Q (.int n) H := by
      intro e
      cases e1 : lsR d S with
      | none => rw [e1] at e; cases e
      | some l =>
        rw [e1] at e; cases e
        obtain ⟨a, vs, rfl, h1, h2⟩ := lsR_ok (G := pg X) R r e1
        exact ⟨_, vs.length, rfl, .inl ⟨vs, h1, rfl⟩, by rw [← h2.length]; exact here (G := pg X) q R (.int _)⟩
    cases r with
    | @tup a vs ds h1 h2 => cases e; exact ⟨_, vs.length, rfl, .inr ⟨vs, h1.sq, rfl⟩, by rw [← h2.length]; exact here (G := pg X) q R (.int _)⟩
    | str y =>
      unfold oLen at e
      simp only at e
      cases hf : fit y.length with
      | false => rw [hf] at e; cases e
      | true => rw [hf] at e; cases e; exact ⟨_, y.length, rfl, ⟨fit_le hf, rfl⟩, here (G := pg X) q R (.int _)⟩
    | _ => exact gen e
  | d :: _ :: _, e => cases d <;> cases e
theorem ok_abs : OkN (pg X) (fun xs H Q => ∃ i, xs = [.int i] ∧ Q (.int (if i < 0 then -i else i)) H) oAbs := by
  intro B L ρ S S' H ds d' xs Q R rs e q
  match ds, e with
  | [.int i], e =>
    obtain ⟨x, rfl, r⟩ := rvs1 rs
    cases r; cases e
    exact ⟨i, rfl, here (G := pg X) q R (.int _)⟩
theorem ok_all : OkN (pg X) (rAll X.K) oAll := by
  intro B L ρ S S' H ds d' xs Q R rs e q
  match ds, e with
  | [d], e =>
    obtain ⟨x, rfl, r⟩ := rvs1 rs
    unfold oAll at e
    simp only at e
    cases e1 : lsR d S with
    | none => rw [e1] at e; cases e
    | some l =>
      rw [e1] at e
      simp only at e
      cases e2 : blsD l with
      | none => rw [e2] at e; cases e
      | some bs =>
        rw [e2] at e; cases e
        obtain ⟨a, vs, rfl, h1, h2⟩ := lsR_ok (G := pg X) R r e1
        obtain rfl := blsD_ok (G := pg X) h2 e2
        exact ⟨a, bs, rfl, h1, here (G := pg X) q R (.bl _)⟩
theorem ok_any : OkN (pg X) (rAny X.K) oAny := by
  intro B L ρ S S' H ds d' xs Q R rs e q
  match ds, e with
  | [d], e =>
    obtain ⟨x, rfl, r⟩ := rvs1 rs
    unfold oAny at e
    simp only at e
    cases e1 : lsR d S with
    | none => rw [e1] at e; cases e
    | some l =>
      rw [e1] at e
      simp only at e
      cases e2 : blsD l with
      | none => rw [e2] at e; cases e
      | some bs =>
        rw [e2] at e; cases e
        obtain ⟨a, vs, rfl, h1, h2⟩ := lsR_ok (G := pg X) R r e1
        obtain rfl := blsD_ok (G := pg X) h2 e2
        exact ⟨a, bs, rfl, h1, here (G := pg X) q R (.bl _)⟩
theorem ok_list {m : Bool} : OkN (pg X) (fun xs H Q => ∃ p ys, xs = [.ref p] ∧ (SqL X.K H p ys ∨ SqT X.K H p ys) ∧ ∀ l, H l = none → Q (.ref l) (upd H l (.lst ys))) (oList m) := by
  intro B L ρ S S' H ds d' xs Q R rs e q
  match ds, e with
  | [d], e =>
    obtain ⟨x, rfl, r⟩ := rvs1 rs
    have gen : (match lsR d S with
      | some l => mkL m l S
      | none => none) = some (d', S') → ∃ p ys, [x] = [.ref p] ∧ (SqL X.K H p ys ∨ SqT X.K H p ys) ∧ ∀ l, H l = none → Q (.ref l) (upd H l (.lst ys)) := by
      intro e
      cases e1 : lsR d S with
      | none => rw [e1] at e; cases e
      | some l =>
        rw [e1] at e
        obtain ⟨a, vs, rfl, h1, h2⟩ := lsR_ok (G := pg X) R r e1
        exact ⟨a, vs, rfl, .inl h1, (mkL_ok R h2 e q).2⟩
    cases r with
    | @tup a vs ds h1 h2 => exact ⟨a, vs, rfl, .inr h1.sq, (mkL_ok R h2 e q).2⟩
    | _ => exact gen e
  | d :: _ :: _, e => cases d <;> cases e
theorem ok_tuple : OkN (pg X) (fun xs H Q => ∃ p ys, xs = [.ref p] ∧ ((SqL X.K H p ys ∧ ∀ l, H l = none → Q (.ref l) (upd H l (.tup ys))) ∨ (SqT X.K H p ys ∧ Q (.ref p) H))) oTuple := by
  intro B L ρ S S' H ds d' xs Q R rs e q
  match ds, e with
  | [d], e =>
    obtain ⟨x, rfl, r⟩ := rvs1 rs
    have gen : (match lsR d S with
      | some l => some (D.tup l, S)
      | none => none) = some (d', S') → ∃ p ys, [x] = [.ref p] ∧ ((SqL X.K H p ys ∧ ∀ l, H l = none → Q (.ref l) (upd H l (.tup ys))) ∨ (SqT X.K H p ys ∧ Q (.ref p) H)) := by
      intro e
      cases e1 : lsR d S with
      | none => rw [e1] at e; cases e
      | some l =>
        rw [e1] at e; cases e
        obtain ⟨a, vs, rfl, h1, h2⟩ := lsR_ok (G := pg X) R r e1
        exact ⟨a, vs, rfl, .inl ⟨h1, mkT_ok R h2 q⟩⟩
    cases r with
    | @tup a vs ds h1 h2 => cases e; exact ⟨a, vs, rfl, .inr ⟨h1.sq, here (G := pg X) q R (.tup h1 h2)⟩⟩
    | _ => exact gen e
  | d :: _ :: _, e => cases d <;> cases e
theorem tyD_ok {G : Pg} {d : D} {x : V} {t : String} (R : RH G B L ρ H S) (r : RV G.K B ρ H d x) (e : tyD S d = some t) : TyX G.K H x (.type t) := by
  cases r with
  | non => cases e; exact .base .non
  | bl b => cases e; exact .base (.bl b)
  | int i => cases e; exact .base (.int i)
  | str y => cases e; exact .base (.str y)
  | tup h1 h2 => cases e; exact .base (.tup h1.2.2)
  | lst h1 h2 h3 h4 => cases e; exact .base (.lst h3)
  | @loc n a h =>
    unfold tyD at e
    simp only at e
    cases q : S[n]? with
    | none => rw [q] at e; cases e
    | some o =>
      rw [q] at e
      cases o with
      | lst ds => cases e; obtain ⟨vs, h1, h2⟩ := R.ob n a _ h q; exact .base (.lst h1)
      | dki lk kvs =>
        cases lk with
        | true => cases e
        | false => cases e; obtain ⟨ents, h1, h2⟩ := R.ob n a _ h q; exact .base (.dK h1)
      | _ => cases e
  | _ => cases e
theorem isaAny_ok {t : String} {cs : List D} {vs : List V} {b : Bool} (r : RVs K B ρ H cs vs) (e : isaAny t cs = some b) : ∃ us, Paired ClsV vs us ∧ PySem.W.kitAny K (.type t) us = some b := by
  match cs, e with
  | [.glob (.ty n), .glob (.ty m)], e =>
    obtain ⟨x, y, rfl, r1, r2⟩ := rvs2 r
    cases r1; cases r2
    unfold isaAny at e
    simp only at e
    cases e1 : isaB t n with
    | none => rw [e1] at e; cases e
    | some b' =>
      cases e2 : isaB t m with
      | none => rw [e1, e2] at e; cases e
      | some c =>
        rw [e1, e2] at e; cases e
        refine ⟨[.type n, .type m], .cons (.ty n) (.cons (.ty m) .nil), ?_⟩
        refine kitAny_cons (kit_ty (isaB_ok e1)) (fun z => ?_) (fun z => by rw [z]; rfl)
        subst z
        refine kitAny_cons (kit_ty (isaB_ok e2)) (fun z => ?_) (fun z => by rw [z]; rfl)
        subst z; rfl
abbrev rIsaR (K : PySem.W.Frag) : List V → Hp → VK → Prop := fun xs H Q => rIsi K xs H Q ∨ rIsiT K xs H Q
theorem callr_isa : CallR X (.builtin "isinstance") (rIsaR X.K) := call_isi.or call_isiT
theorem ok_isa : OkN (pg X) (rIsaR X.K) oIsa := by
  intro B L ρ S S' H ds d' xs Q R rs e q
  match ds, e with
  | [d, .glob (.ty n)], e =>
    obtain ⟨x, y, rfl, r1, r2⟩ := rvs2 rs
    cases r2
    unfold oIsa at e
    simp only at e
    cases e1 : tyD S d with
    | none => rw [e1] at e; cases e
    | some t =>
      rw [e1] at e
      simp only at e
      cases e2 : isaB t n with
      | none => rw [e2] at e; cases e
      | some b =>
        rw [e2] at e; cases e
        exact .inl ⟨x, _, .type t, .type n, b, rfl, .ty n, tyD_ok (G := pg X) R r1 e1, kit_ty (isaB_ok e2), here (G := pg X) q R (.bl _)⟩
  | [d, .tup cs], e =>
    obtain ⟨x, y, rfl, r1, r2⟩ := rvs2 rs
    cases r2 with
    | @tup a vs _ h1 h2 =>
    unfold oIsa at e
    simp only at e
    cases e1 : tyD S d with
    | none => rw [e1] at e; cases e
    | some t =>
      rw [e1] at e
      simp only at e
      cases e2 : isaAny t cs with
      | none => rw [e2] at e; cases e
      | some b =>
        rw [e2] at e; cases e
        obtain ⟨us, k1, k2⟩ := isaAny_ok h2 e2
        exact .inr ⟨x, a, vs, .type t, us, b, rfl, h1.2.2, k1, tyD_ok (G := pg X) R r1 e1, k2, here (G := pg X) q R (.bl _)⟩
/-! ### max, min, sum: two ints; a list, a tuple of ints -/
theorem foldl_max_mem : ∀ (ns : List Int) (n : Int), (ns.foldl max n = n ∨ ns.foldl max n ∈ ns) ∧ n ≤ ns.foldl max n ∧ ∀ y, y ∈ ns → y ≤ ns.foldl max n
  | [], n => ⟨.inl rfl, Int.le_refl _, fun _ h => nomatch h⟩
  | k :: r, n => by
    obtain ⟨h1, h2, h3⟩ := foldl_max_mem r (max n k)
    rw [List.foldl_cons]
    refine ⟨?_, by omega, fun y hy => ?_⟩
    · rcases h1 with h1 | h1
      · rw [h1]
        by_cases z : n ≤ k
        · right; rw [Int.max_eq_right z]; exact List.mem_cons_self
        · left; exact Int.max_eq_left (by omega)
      · exact .inr (List.mem_cons_of_mem _ h1)
    · rcases List.mem_cons.mp hy with rfl | hy
      · omega
      · exact h3 y hy
theorem foldl_min_mem : ∀ (ns : List Int) (n : Int), (ns.foldl min n = n ∨ ns.foldl min n ∈ ns) ∧ ns.foldl min n ≤ n ∧ ∀ y, y ∈ ns → ns.foldl min n ≤ y
  | [], n => ⟨.inl rfl, Int.le_refl _, fun _ h => nomatch h⟩
  | k :: r, n => by
    obtain ⟨h1, h2, h3⟩ := foldl_min_mem r (min n k)
    rw [List.foldl_cons]
    refine ⟨?_, by omega, fun y hy => ?_⟩
    · rcases h1 with h1 | h1
      · rw [h1]
        by_cases z : n ≤ k
        · left; exact Int.min_eq_left z
        · right; rw [Int.min_eq_right (by omega)]; exact List.mem_cons_self
      · exact .inr (List.mem_cons_of_mem _ h1)
    · rcases List.mem_cons.mp hy with rfl | hy
      · omega
      · exact h3 y hy
theorem readsInts {h : Heap} : ∀ {ns : List Int} {us : List Value}, Vals (ns.map V.int) us → ∃ as, ReadsAll h us (ns.map PyData.int) as
  | [], _, .nil => ⟨_, ReadsAll.nil⟩
  | n :: ns, _, .cons r t => by
    obtain ⟨tk, rfl⟩ := r
    obtain ⟨as, q⟩ := readsInts t
    exact ⟨_, ReadsAll.cons (Reads.int n tk) q⟩
theorem alikeInts (ns : List Int) : PySem.W.AlikeAll (ns.map PyData.int) := by
  refine ⟨fun x hx y hy => ?_, fun x hx => ?_⟩
  · obtain ⟨i, _, rfl⟩ := List.mem_map.mp hx
    obtain ⟨j, _, rfl⟩ := List.mem_map.mp hy
    rfl
  · obtain ⟨i, _, rfl⟩ := List.mem_map.mp hx
    exact fun z => nomatch z
theorem depthInts : ∀ ns : List Int, PyData.depthAll (ns.map PyData.int) = 0
  | [] => rfl
  | n :: ns => by rw [List.map_cons, PyData.depthAll, depthInts ns]; rfl
def rTupF (K : PySem.W.Frag) (f : Int → List Int → Int) : List V → Hp → VK → Prop := fun xs H Q => ∃ (a : Addr) (n : Int) (ns : List Int), xs = [.ref a] ∧ SqT K H a ((n :: ns).map V.int) ∧ Q (.int (f n ns)) H
theorem cr_maxT {k : Nat} (hc : X.calm = true) (hr : Room k X.A) : CallR X (.builtin "max") (rTupF X.K fun n ns => ns.foldl max n) := by
  intro pins s σ H vs us Q I r h
  obtain ⟨a, n, ns, rfl, hs, q⟩ := h
  obtain ⟨its, rv, ht, _⟩ := I.tuple hs
  rw [Vals.ref1 r]
  obtain ⟨as, hra⟩ := readsInts (h := s.heap) rv
  have hu := hr.units
  refine PySem.W.max_tuple_data (I.ok.hd hc) (show s.heap.IsTuple a its.toArray from ht) (x := .int n) (xs := ns.map .int) (as := as) (by simpa using hra) (by simpa using alikeInts (n :: ns)) (by rw [show (PyData.int n :: ns.map PyData.int) = (n :: ns).map PyData.int from rfl, depthInts]; omega) fun i v h' tk bs hv hread hk => ?_
  rw [PySem.W.maxD_ints] at hread
  cases hread
  exact ⟨.int _, H, I.kept hk, ⟨_, rfl⟩, q⟩
theorem cr_minT {k : Nat} (hc : X.calm = true) (hr : Room k X.A) : CallR X (.builtin "min") (rTupF X.K fun n ns => ns.foldl min n) := by
  intro pins s σ H vs us Q I r h
  obtain ⟨a, n, ns, rfl, hs, q⟩ := h
  obtain ⟨its, rv, ht, _⟩ := I.tuple hs
  rw [Vals.ref1 r]
  obtain ⟨as, hra⟩ := readsInts (h := s.heap) rv
  have hu := hr.units
  refine PySem.W.min_tuple_data (I.ok.hd hc) (show s.heap.IsTuple a its.toArray from ht) (x := .int n) (xs := ns.map .int) (as := as) (by simpa using hra) (by simpa using alikeInts (n :: ns)) (by rw [show (PyData.int n :: ns.map PyData.int) = (n :: ns).map PyData.int from rfl, depthInts]; omega) fun i v h' tk bs hv hread hk => ?_
  rw [PySem.W.minD_ints] at hread
  cases hread
  exact ⟨.int _, H, I.kept hk, ⟨_, rfl⟩, q⟩
def rSumT (K : PySem.W.Frag) : List V → Hp → VK → Prop := fun xs H Q => ∃ (a : Addr) (ns : List Int), xs = [.ref a] ∧ SqT K H a (ns.map V.int) ∧ Q (.int ns.sum) H
theorem cr_sumT (hc : X.calm = true) : CallR X (.builtin "sum") (rSumT X.K) := by
  intro pins s σ H vs us Q I r h
  obtain ⟨a, ns, rfl, hs, q⟩ := h
  obtain ⟨its, rv, ht, _⟩ := I.tuple hs
  rw [Vals.ref1 r]
  have hi := rv.ints
  obtain ⟨xs, hx⟩ := hi.allInts.items
  have hl : s.heap.IsTuple a its.toArray := ht
  have hn : numsOf its.toArray.toList = ns := by rw [show its.toArray.toList = its from rfl, hi.numsOf]
  rw [hx] at hl hn
  rw [nums_intItems] at hn
  refine PySem.W.ktm_sumG (I.ok.hd hc) hl fun h' tk t' hk => ?_
  rw [preSum_eq, List.take_of_length_le (by simp), hn]
  exact ⟨.int _, H, I.kept hk, ⟨_, rfl⟩, q⟩
abbrev rMaxR (K : PySem.W.Frag) : List V → Hp → VK → Prop := fun xs H Q => rMax K xs H Q ∨ rTupF K (fun n ns => ns.foldl max n) xs H Q
abbrev rMinR (K : PySem.W.Frag) : List V → Hp → VK → Prop := fun xs H Q => rMin K xs H Q ∨ rTupF K (fun n ns => ns.foldl min n) xs H Q
abbrev rSumR (K : PySem.W.Frag) : List V → Hp → VK → Prop := fun xs H Q => rSum K xs H Q ∨ rSumT K xs H Q
theorem callr_max {k : Nat} (hc : X.calm = true) (hr : Room k X.A) : CallR X (.builtin "max") (rMaxR X.K) := (cr_max hc).or (cr_maxT hc hr)
theorem callr_min {k : Nat} (hc : X.calm = true) (hr : Room k X.A) : CallR X (.builtin "min") (rMinR X.K) := (cr_min hc).or (cr_minT hc hr)
theorem callr_sum (hc : X.calm = true) : CallR X (.builtin "sum") (rSumR X.K) := (cr_sum hc).or (cr_sumT hc)
theorem ok_max : OkN (pg X) (rMaxR X.K) oMax := by
  intro B L ρ S S' H ds d' xs Q R rs e q
  match ds, e with
  | [d], e =>
    obtain ⟨x, rfl, r⟩ := rvs1 rs
    have gen : (match lsR d S with
      | some l => match intsD l with
        | some (n :: ns) => some (D.int (ns.foldl max n), S)
        | _ => none
      | none => none) = some (d', S') → rMaxR X.K [x] H Q := by
      intro e
      cases e1 : lsR d S with
      | none => rw [e1] at e; cases e
      | some l =>
        rw [e1] at e
        simp only at e
        cases e2 : intsD l with
        | none => rw [e2] at e; cases e
        | some ns =>
          rw [e2] at e
          cases ns with
          | nil => cases e
          | cons n ns =>
            cases e
            obtain ⟨a, vs, rfl, h1, h2⟩ := lsR_ok (G := pg X) R r e1
            obtain rfl := intsD_ok (G := pg X) h2 e2
            refine .inl ⟨a, n :: ns, rfl, h1, by simp, fun m hm hle => ?_⟩
            obtain ⟨z1, z2, z3⟩ := foldl_max_mem ns n
            have : m = ns.foldl max n := by
              have a1 : m ≤ ns.foldl max n := by
                rcases List.mem_cons.mp hm with rfl | hm
                · exact z2
                · exact z3 m hm
              have a2 : ns.foldl max n ≤ m := by
                rcases z1 with z1 | z1
                · rw [z1]; exact hle n List.mem_cons_self
                · exact hle _ (List.mem_cons_of_mem _ z1)
              omega
            rw [this]
            exact here (G := pg X) q R (.int _)
    cases r with
    | @tup a vs ds h1 h2 =>
      unfold oMax at e
      simp only at e
      cases e2 : intsD ds with
      | none => rw [e2] at e; cases e
      | some ns =>
        rw [e2] at e
        cases ns with
        | nil => cases e
        | cons n ns =>
          cases e
          obtain rfl := intsD_ok (G := pg X) h2 e2
          exact .inr ⟨a, n, ns, rfl, h1.sq, here (G := pg X) q R (.int _)⟩
    | _ => exact gen e
  | d :: _ :: _, e => cases d <;> cases e
theorem ok_min : OkN (pg X) (rMinR X.K) oMin := by
  intro B L ρ S S' H ds d' xs Q R rs e q
  match ds, e with
  | [d], e =>
    obtain ⟨x, rfl, r⟩ := rvs1 rs
    have gen : (match lsR d S with
      | some l => match intsD l with
        | some (n :: ns) => some (D.int (ns.foldl min n), S)
        | _ => none
      | none => none) = some (d', S') → rMinR X.K [x] H Q := by
      intro e
      cases e1 : lsR d S with
      | none => rw [e1] at e; cases e
      | some l =>
        rw [e1] at e
        simp only at e
        cases e2 : intsD l with
        | none => rw [e2] at e; cases e
        | some ns =>
          rw [e2] at e
          cases ns with
          | nil => cases e
          | cons n ns =>
            cases e
            obtain ⟨a, vs, rfl, h1, h2⟩ := lsR_ok (G := pg X) R r e1
            obtain rfl := intsD_ok (G := pg X) h2 e2
            refine .inl ⟨a, n :: ns, rfl, h1, by simp, fun m hm hle => ?_⟩
            obtain ⟨z1, z2, z3⟩ := foldl_min_mem ns n
            have : m = ns.foldl min n := by
              have a1 : ns.foldl min n ≤ m := by
                rcases List.mem_cons.mp hm with rfl | hm
                · exact z2
                · exact z3 m hm
              have a2 : m ≤ ns.foldl min n := by
                rcases z1 with z1 | z1
                · rw [z1]; exact hle n List.mem_cons_self
                · exact hle _ (List.mem_cons_of_mem _ z1)
              omega
            rw [this]
            exact here (G := pg X) q R (.int _)
    cases r with
    | @tup a vs ds h1 h2 =>
      unfold oMin at e
      simp only at e
      cases e2 : intsD ds with
      | none => rw [e2] at e; cases e
      | some ns =>
        rw [e2] at e
        cases ns with
        | nil => cases e
        | cons n ns =>
          cases e
          obtain rfl := intsD_ok (G := pg X) h2 e2
          exact .inr ⟨a, n, ns, rfl, h1.sq, here (G := pg X) q R (.int _)⟩
    | _ => exact gen e
  | d :: _ :: _, e => cases d <;> cases e
theorem ok_max2 : OkN (pg X) (fun xs H Q => ∃ i j, xs = [.int i, .int j] ∧ Q (.int (if j > i then j else i)) H) oMax2 := by
  intro B L ρ S S' H ds d' xs Q R rs e q
  match ds, e with
  | [.int i, .int j], e =>
    obtain ⟨x, y, rfl, r1, r2⟩ := rvs2 rs
    cases r1; cases r2; cases e
    exact ⟨i, j, rfl, here (G := pg X) q R (.int _)⟩
theorem ok_min2 : OkN (pg X) (fun xs H Q => ∃ i j, xs = [.int i, .int j] ∧ Q (.int (if j < i then j else i)) H) oMin2 := by
  intro B L ρ S S' H ds d' xs Q R rs e q
  match ds, e with
  | [.int i, .int j], e =>
    obtain ⟨x, y, rfl, r1, r2⟩ := rvs2 rs
    cases r1; cases r2; cases e
    exact ⟨i, j, rfl, here (G := pg X) q R (.int _)⟩
theorem ok_sum : OkN (pg X) (rSumR X.K) oSum := by
  intro B L ρ S S' H ds d' xs Q R rs e q
  match ds, e with
  | [d], e =>
    obtain ⟨x, rfl, r⟩ := rvs1 rs
    have gen : (match lsR d S with
      | some l => match intsD l with
        | some ns => some (D.int ns.sum, S)
        | _ => none
      | none => none) = some (d', S') → rSumR X.K [x] H Q := by
      intro e
      cases e1 : lsR d S with
      | none => rw [e1] at e; cases e
      | some l =>
        rw [e1] at e
        simp only at e
        cases e2 : intsD l with
        | none => rw [e2] at e; cases e
        | some ns =>
          rw [e2] at e; cases e
          obtain ⟨a, vs, rfl, h1, h2⟩ := lsR_ok (G := pg X) R r e1
          obtain rfl := intsD_ok (G := pg X) h2 e2
          exact .inl ⟨a, ns, rfl, h1, here (G := pg X) q R (.int _)⟩
    cases r with
    | @tup a vs ds h1 h2 =>
      unfold oSum at e
      simp only at e
      cases e2 : intsD ds with
      | none => rw [e2] at e; cases e
      | some ns =>
        rw [e2] at e; cases e
        obtain rfl := intsD_ok (G := pg X) h2 e2
        exact .inr ⟨a, ns, rfl, h1.sq, here (G := pg X) q R (.int _)⟩
    | _ => exact gen e
  | d :: _ :: _, e => cases d <;> cases e
end

/-! ### displays -/
def fTup (fs : FA) : FE := fun env S => (fs env S).bind fun xs S1 => bif fit xs.length then .ok (.tup xs) S1 else .bad
def fLst (m : Bool) (fs : FA) : FE := fun env S => (fs env S).bind fun xs S1 => outO (mkL m xs S1)
section
variable {X : Cx} {w : Wx} {es : List Expr} {fs : FA} {k : Nat} {pos : Pos}
theorem se_tup (h : SA X w es fs) : SE X w (.Tuple es k pos) (fTup fs) := PE.imp (pe_tup h) fun σ H Q ⟨B, L, ρ, S, env, A, gg⟩ =>
  tA_mono (tA_bind (rel := rD (pg X)) A gg) fun x H1 ⟨B, L, ρ, S, d, A, r, g⟩ => by
    cases hf : fit d.length with
    | false => rw [hf] at g; exact g.elim
    | true =>
      rw [hf] at g
      exact ⟨by rw [← r.length]; exact fit_le hf, mkT_ok A.rh r g⟩
theorem se_lst {m : Bool} (h : SA X w es fs) : SE X w (.List es pos) (fLst m fs) := PE.imp (pe_lst h) fun σ H Q ⟨B, L, ρ, S, env, A, gg⟩ =>
  tA_mono (tA_bind (rel := rD (pg X)) A gg) fun x H1 ⟨B, L, ρ, S, d, A, r, g⟩ => by
    obtain ⟨d', S', e, q⟩ := g.outO
    exact mkL_ok A.rh r e q
end
end Sf
end

section
set_option Elab.async false
set_option maxRecDepth 100000
set_option linter.all false
/-! Sf5: statements, loops. -/
namespace Sf
open PySem PySem.Spec PyProof.Rows L2

inductive SR where
  | nx (env : En) (S : Sto)
  | bk (env : En) (S : Sto)
  | ct (env : En) (S : Sto)
  | rt (d : D) (S : Sto)
  | xc (c : Nat) (S : Sto)
  | bad
abbrev FS := En → Sto → SR
def Out.bindS {α : Type} (r : Out α) (k : α → Sto → SR) : SR := match r with
  | .ok a S => k a S
  | .exc c S => .xc c S
  | .bad => .bad
def SR.bindN (r : SR) (k : En → Sto → SR) : SR := match r with
  | .nx env S => k env S
  | r => r
def GS (G : Pg) (W : WX) (xm : XM) (B L ρ : List Addr) (H : Hp) (r : SR) (D : Ends) : Prop :=
  match r with
  | .nx env S' => ∀ σ' ρ' H', Post L ρ H ρ' H' → RH G B L ρ' H' S' → RE G.K B ρ' H' env σ' → D.nx σ' H'
  | .bk env S' => ∀ σ' ρ' H', Post L ρ H ρ' H' → RH G B L ρ' H' S' → RE G.K B ρ' H' env σ' → D.bk σ' H'
  | .ct env S' => ∀ σ' ρ' H', Post L ρ H ρ' H' → RH G B L ρ' H' S' → RE G.K B ρ' H' env σ' → D.ct σ' H'
  | .rt d S' => ∀ v ρ' H', Post L ρ H ρ' H' → RH G B L ρ' H' S' → RV G.K B ρ' H' d v → D.rt v H'
  | .xc c S' => ∀ σ' ρ' H', Post L ρ H ρ' H' → RH G B L ρ' H' S' → W (xm c) none σ' H'
  | .bad => False
def tS (G : Pg) (W : WX) (xm : XM) (f : FS) : TS := fun D σ H => ∃ B L ρ S env, At G B L ρ S env σ H ∧ GS G W xm B L ρ H (f env S) D
abbrev SS (X : Cx) (w : Wx) (st : Stmt) (f : FS) : Prop := PS X st (tS (pg X) w.W w.xm f)
abbrev SSs (X : Cx) (w : Wx) (sts : List Stmt) (f : FS) : Prop := PSs X sts (tS (pg X) w.W w.xm f)
section
variable {G : Pg} {W : WX} {xm : XM} {B L ρ ρ' : List Addr} {H H' : Hp} {σ : L2.St} {r : SR} {D D' : Ends} {S : Sto} {env : En}
theorem GS.step (g : GS G W xm B L ρ H r D) (p : Post L ρ H ρ' H') : GS G W xm B L ρ' H' r D := by
  cases r with
  | nx e S' => exact fun v ρ2 H2 q R x => g v ρ2 H2 (p.trans q) R x
  | bk e S' => exact fun v ρ2 H2 q R x => g v ρ2 H2 (p.trans q) R x
  | ct e S' => exact fun v ρ2 H2 q R x => g v ρ2 H2 (p.trans q) R x
  | rt e S' => exact fun v ρ2 H2 q R x => g v ρ2 H2 (p.trans q) R x
  | xc c S' => exact fun v ρ2 H2 q R => g v ρ2 H2 (p.trans q) R
  | bad => exact g
theorem GS.nx0 {env : En} (g : GS G W xm B L ρ H (.nx env S) D) (R : RH G B L ρ H S) (re : RE G.K B ρ H env σ) : D.nx σ H := g σ ρ H Post.refl R re
theorem tE_bindS {f : FE} {k : Sf.D → Sto → SR} (A : At G B L ρ S env σ H) (g : GS G W xm B L ρ H ((f env S).bindS k) D) :
    tE G W xm f σ H fun x H1 => ∃ B L ρ S d, At G B L ρ S env σ H1 ∧ RV G.K B ρ H1 d x ∧ GS G W xm B L ρ H1 (k d S) D := by
  refine ⟨B, L, ρ, S, env, A, ?_⟩
  revert g
  cases f env S with
  | ok d S' => exact fun g v ρ' H' p R r => ⟨B, L, ρ', S', d, A.step p R, r, GS.step g p⟩
  | exc c S' => exact fun g => g σ
  | bad => exact fun g => g
theorem tT_bindS {f : FT} {k : Bool → Sto → SR} (A : At G B L ρ S env σ H) (g : GS G W xm B L ρ H ((f env S).bindS k) D) :
    tT G W xm f σ H fun x H1 => ∃ B L ρ S, At G B L ρ S env σ H1 ∧ GS G W xm B L ρ H1 (k x S) D := by
  refine ⟨B, L, ρ, S, env, A, ?_⟩
  revert g
  cases f env S with
  | ok d S' => exact fun g v ρ' H' p R r => ⟨B, L, ρ', S', A.step p R, by cases r; exact GS.step g p⟩
  | exc c S' => exact fun g => g σ
  | bad => exact fun g => g
theorem tE_bindS2 {f g : FE} {k : Sf.D → Sf.D → Sto → SR} (A : At G B L ρ S env σ H) (gg : GS G W xm B L ρ H ((f env S).bindS fun x S1 => (g env S1).bindS fun y S2 => k x y S2) D) :
    tE G W xm f σ H fun x H1 => tE G W xm g σ H1 fun y H2 => ∃ B L ρ S d d', At G B L ρ S env σ H2 ∧ RV G.K B ρ H2 d x ∧ RV G.K B ρ H2 d' y ∧ GS G W xm B L ρ H2 (k d d' S) D := by
  refine ⟨B, L, ρ, S, env, A, ?_⟩
  revert gg
  cases f env S with
  | ok d S' =>
    intro gg v ρ' H' p R r
    have g' := GS.step gg p
    refine ⟨B, L, ρ', S', env, A.step p R, ?_⟩
    revert g'
    show GS G W xm B L ρ' H' ((g env S').bindS fun y S2 => k d y S2) D → _
    cases g env S' with
    | ok d' S2 => exact fun g' v2 ρ2 H2 p2 R2 r2 => ⟨B, L, ρ2, S2, d, d', (A.step p R).step p2 R2, r.mono p2, r2, GS.step g' p2⟩
    | exc c S' => exact fun g => g σ
    | bad => exact fun g => g
  | exc c S' => exact fun g => g σ
  | bad => exact fun g => g
theorem tE_bindS3 {f g h : FE} {k : Sf.D → Sf.D → Sf.D → Sto → SR} (A : At G B L ρ S env σ H) (gg : GS G W xm B L ρ H ((f env S).bindS fun x S1 => (g env S1).bindS fun y S2 => (h env S2).bindS fun z S3 => k x y z S3) D) :
    tE G W xm f σ H fun x H1 => tE G W xm g σ H1 fun y H2 => tE G W xm h σ H2 fun z H3 => ∃ B L ρ S d d' d'', At G B L ρ S env σ H3 ∧ RV G.K B ρ H3 d x ∧ RV G.K B ρ H3 d' y ∧ RV G.K B ρ H3 d'' z ∧ GS G W xm B L ρ H3 (k d d' d'' S) D := by
  refine ⟨B, L, ρ, S, env, A, ?_⟩
  revert gg
  cases f env S with
  | ok d S' =>
    intro gg v ρ' H' p R r
    have g' := GS.step gg p
    refine ⟨B, L, ρ', S', env, A.step p R, ?_⟩
    revert g'
    show GS G W xm B L ρ' H' ((g env S').bindS fun y S2 => (h env S2).bindS fun z S3 => k d y z S3) D → _
    cases g env S' with
    | ok d' S2 =>
      intro g' v2 ρ2 H2 p2 R2 r2
      have g2 := GS.step g' p2
      refine ⟨B, L, ρ2, S2, env, (A.step p R).step p2 R2, ?_⟩
      revert g2
      show GS G W xm B L ρ2 H2 ((h env S2).bindS fun z S3 => k d d' z S3) D → _
      cases h env S2 with
      | ok d'' S3 => exact fun g2 v3 ρ3 H3 p3 R3 r3 => ⟨B, L, ρ3, S3, d, d', d'', ((A.step p R).step p2 R2).step p3 R3, (r.mono p2).mono p3, r2.mono p3, r3, GS.step g2 p3⟩
      | exc c S' => exact fun g => g σ
      | bad => exact fun g => g
    | exc c S' => exact fun g => g σ
    | bad => exact fun g => g
  | exc c S' => exact fun g => g σ
  | bad => exact fun g => g
end

/-! ### functions of statements -/
def sSkip : FS := fun env S => .nx env S
def sSeq (f g : FS) : FS := fun env S => (f env S).bindN g
def sBreak : FS := fun env S => .bk env S
def sCont : FS := fun env S => .ct env S
def sExpr (f : FE) : FS := fun env S => (f env S).bindS fun _ S1 => .nx env S1
def sRet (f : FE) : FS := fun env S => (f env S).bindS fun x S1 => .rt x S1
def sIf (c : FT) (a b : FS) : FS := fun env S => (c env S).bindS fun x S1 => bif x then a env S1 else b env S1
def sAsg (i : Nat) (f : FE) : FS := fun env S => (f env S).bindS fun x S1 => .nx (env.set i x) S1
def setAllE : En → List Nat → List D → En
  | env, i :: is, d :: ds => setAllE (env.set i d) is ds
  | env, _, _ => env
def setAllS : L2.St → List Nat → List V → L2.St
  | σ, i :: is, d :: ds => setAllS (σ.set i (some d)) is ds
  | σ, _, _ => σ
def unTup (is : List Nat) (d : D) (env : En) : Option En := match d with
  | .tup l => bif Nat.beq l.length is.length then some (setAllE env is l) else none
  | _ => none
def sAsgT (is : List Nat) (f : FE) : FS := fun env S => (f env S).bindS fun x S1 => match unTup is x env with
  | some env' => .nx env' S1
  | none => .bad
def sAsgP (is : List Nat) (fs : FA) : FS := fun env S => (fs env S).bindS fun xs S1 => .nx (setAllE env is xs) S1
/-- o[i] = v of a list's place -/
def setO (o i v : D) (S : Sto) : Option Sto := match o, i with
  | .loc n, .int k => match S[n]? with
    | some (.lst l) => match ixN l.length k with
      | some j => some (S.set n (.lst (l.set j v)))
      | none => none
    | _ => none
  | _, _ => none
def sAsgIx (fe fo fi : FE) : FS := fun env S => (fe env S).bindS fun x S1 => (fo env S1).bindS fun o S2 => (fi env S2).bindS fun i S3 => match setO o i x S3 with
  | some S4 => .nx env S4
  | none => .bad
def sAug (i : Nat) (g : Op2) (f : FE) : FS := fun env S => (fVar i env S).bindS fun x S1 => (f env S1).bindS fun y S2 => match g x y S2 with
  | some (z, S3) => .nx (env.set i z) S3
  | none => .bad
def sto (env : En) : Option Sto → SR
  | some S => .nx env S
  | none => .bad
def augJ (g : Op2) (env : En) (o i x y : D) (S : Sto) : SR := match g x y S with
  | some (z, S5) => sto env (setO o i z S5)
  | none => .bad
def augK (g : Op2) (fe : FE) (env : En) (o i : D) (S : Sto) : SR := match o, i with
  | .loc n, .int k => match oIx (.loc n) (.int k) S with
    | some (x, S3) => (fe env S3).bindS fun y S4 => augJ g env (.loc n) (.int k) x y S4
    | none => .bad
  | _, _ => .bad
def sAugIx (g : Op2) (fo fi fe : FE) : FS := fun env S => (fo env S).bindS fun o S1 => (fi env S1).bindS fun i S2 => augK g fe env o i S2
def whileL (c : FT) (b : FS) : Nat → FS
  | 0 => fun _ _ => .bad
  | m + 1 => fun env S => (c env S).bindS fun x S1 => bif x then (match b env S1 with
    | .nx env' S' => whileL c b m env' S'
    | .ct env' S' => whileL c b m env' S'
    | .bk env' S' => .nx env' S'
    | r => r) else .nx env S1

section
variable {X : Cx} {w : Wx} {e : Expr} {st : Stmt} {sts rest : List Stmt} {f g : FS} {fe fo fi : FE} {fc : FT} {fs : FA} {pos : Pos}
theorem ss_nil : SSs X w [] sSkip := PSs.imp pss_nil fun D σ H ⟨B, L, ρ, S, env, A, g⟩ => GS.nx0 g A.rh A.re
theorem ss_cons (h1 : SS X w st f) (h2 : SSs X w rest g) : SSs X w (st :: rest) (sSeq f g) := PSs.imp (pss_cons h1 h2) fun D σ H ⟨B, L, ρ, S, env, A, gg⟩ => by
  refine ⟨B, L, ρ, S, env, A, ?_⟩
  revert gg
  unfold sSeq
  cases f env S with
  | nx env' S' => exact fun g σ' ρ' H' p R re => ⟨B, L, ρ', S', env', ⟨R, re⟩, GS.step g p⟩
  | bk e S' => exact fun g => g
  | ct e S' => exact fun g => g
  | rt e S' => exact fun g => g
  | xc c S' => exact fun g => g
  | bad => exact fun g => g
theorem ss_one (h1 : SS X w st f) : SSs X w [st] f := pss_one h1
theorem ss_pass : SS X w (.Pass pos) sSkip := PS.imp ps_pass fun D σ H ⟨B, L, ρ, S, env, A, g⟩ => GS.nx0 g A.rh A.re
theorem ss_break : SS X w (.Break pos) sBreak := PS.imp ps_break fun D σ H ⟨B, L, ρ, S, env, A, g⟩ => g σ ρ H Post.refl A.rh A.re
theorem ss_cont : SS X w (.Continue pos) sCont := PS.imp ps_continue fun D σ H ⟨B, L, ρ, S, env, A, g⟩ => g σ ρ H Post.refl A.rh A.re
theorem ss_expr (he : SE X w e fe) (hs : swapsWith e none pos.line X.env = pure false := by rfl) : SS X w (.Expr e pos) (sExpr fe) := PS.imp (ps_expr he hs) fun D σ H ⟨B, L, ρ, S, env, A, g⟩ =>
  tE_mono (tE_bindS A g) fun x H1 ⟨B, L, ρ, S, d, A, r, g⟩ => GS.nx0 g A.rh A.re
theorem ss_ret (he : SE X w e fe) : SS X w (.Return (some e) pos) (sRet fe) := PS.imp (ps_ret he) fun D σ H ⟨B, L, ρ, S, env, A, g⟩ =>
  tE_mono (tE_bindS A g) fun x H1 ⟨B, L, ρ, S, d, A, r, g⟩ => g x ρ H1 Post.refl A.rh r
theorem ss_retN : SS X w (.Return none pos) (sRet (fCon .non)) := PS.imp ps_retN fun D σ H ⟨B, L, ρ, S, env, A, g⟩ => g .non ρ H Post.refl A.rh .non
theorem ss_if {c : Expr} {a b : List Stmt} (hc : ST X w c fc) (ha : SSs X w a f) (hb : SSs X w b g) : SS X w (.If c a b pos) (sIf fc f g) := PS.imp (ps_if hc ha hb) fun D σ H ⟨B, L, ρ, S, env, A, gg⟩ =>
  tT_mono (tT_bindS A gg) fun x H1 ⟨B, L, ρ, S, A, g⟩ => by
    cases x with
    | true => exact iteT ⟨B, L, ρ, S, env, A, g⟩
    | false => exact iteF ⟨B, L, ρ, S, env, A, g⟩
theorem ss_set {i : Nat} {x : Str} {pos' : Pos} (hN : X.N.Nodup) (hi : X.N[i]? = some x) (hx : Loc X.env.scope x) (he : SE X w e fe) (hs : swapsWith e (some (.Name x pos')) pos.line X.env = pure false := by rfl) (hf : X.fn x = true ∨ X.env.scope.names.lookup x = some .local := by first | exact .inl rfl | exact .inr rfl | assumption) :
    SS X w (.Assign [.Name x pos'] e pos) (sAsg i fe) := PS.imp (ps_set hN hi hx he hs hf) fun D σ H ⟨B, L, ρ, S, env, A, g⟩ =>
  tE_mono (tE_bindS A g) fun x H1 ⟨B, L, ρ, S, d, A, r, g⟩ => GS.nx0 g A.rh (A.re.set i r)
/-- the same, whatever the rule for the assignment is -/
theorem ss_set' {i : Nat} {te : TE} (h : PS X st (tAsg te (gName i))) (he : ∀ σ H Q, tE (pg X) w.W w.xm fe σ H Q → te σ H Q) : SS X w st (sAsg i fe) := PS.imp h fun D σ H ⟨B, L, ρ, S, env, A, g⟩ =>
  he _ _ _ (tE_mono (tE_bindS A g) fun x H1 ⟨B, L, ρ, S, d, A, r, g⟩ => GS.nx0 g A.rh (A.re.set i r))

/-! ### targets -/
/-- t is a target's rule, g its function, is its slots -/
def TgOk (K : PySem.W.Frag) (t : TG) (g : D → En → Option En) (is : List Nat) : Prop := ∀ (B L ρ : List Addr) (H : Hp) (d : D) (v : V) (env env' : En) (σ : L2.St) (Q : L2.St → Hp → Prop), RV K B ρ H d v → RE K B ρ H env σ → g d env = some env' →
    (∀ σ', RE K B ρ H env' σ' → (∀ vs : List Nat, (∀ i ∈ is, i ∈ vs) → wipe σ' vs = wipe σ vs) → Q σ' H) → t v σ H Q
structure SG (X : Cx) (tg : Expr) (t : TG) (g : D → En → Option En) (is : List Nat) : Prop where
  pg : PG X tg t
  ok : TgOk X.K t g is
def tgName (i : Nat) (d : D) (env : En) : Option En := some (env.set i d)
theorem wipe_set {σ : L2.St} {i : Nat} {v : V} : ∀ {vs : List Nat}, i ∈ vs → wipe (σ.set i (some v)) vs = wipe σ vs
  | a :: vs, h => by
    unfold L2.wipe
    by_cases hi : i ∈ vs
    · rw [wipe_set hi]
    · have : i = a := by rcases List.mem_cons.mp h with h | h; exact h; exact absurd h hi
      subst this
      have key : ∀ (σ : L2.St) (vs : List Nat), i ∉ vs → wipe (σ.set i (some v)) vs = (wipe σ vs).set i (some v) := by
        intro σ vs
        induction vs with
        | nil => intro _; rfl
        | cons b vs ih =>
          intro hb
          unfold L2.wipe
          rw [ih (fun z => hb (List.mem_cons_of_mem _ z)), List.set_comm _ _ (by rintro rfl; exact hb List.mem_cons_self)]
      rw [key σ vs hi, List.set_set]
theorem tgk_name {K : PySem.W.Frag} {i : Nat} : TgOk K (gName i) (tgName i) [i] := fun B L ρ H d v env env' σ Q r re e k => by
  cases e
  exact k _ (re.set i r) fun vs hv => wipe_set (hv i (by simp))
theorem sg_name {i : Nat} {x : Str} (h : PG X (.Name x pos) (gName i)) : SG X (.Name x pos) (gName i) (tgName i) [i] := ⟨h, tgk_name⟩
/-- names in a row -/
def TgsOk (t : TGs) (is : List Nat) : Prop := ∀ (vs : List V) (σ : L2.St) (H : Hp) (Q : L2.St → Hp → Prop), vs.length = is.length → Q (setAllS σ is vs) H → t vs σ H Q
structure SGs (X : Cx) (es : List Expr) (t : TGs) (is : List Nat) : Prop where
  pg : PGs X es t
  ok : TgsOk t is
theorem tgsk_nil : TgsOk gNil [] := fun vs σ H Q h k => by
  cases vs with
  | nil => exact ⟨rfl, k⟩
  | cons => simp at h
theorem tgsk_cons {i : Nat} {is : List Nat} {t : TGs} (hr : TgsOk t is) : TgsOk (gCons (gName i) t) (i :: is) := fun vs σ H Q hl k => by
  cases vs with
  | nil => simp at hl
  | cons v vs => exact ⟨v, vs, rfl, hr vs _ H Q (by simpa using hl) k⟩
theorem sgs_nil : SGs X [] gNil [] := ⟨pgs_nil, tgsk_nil⟩
theorem sgs_cons {es : List Expr} {i : Nat} {is : List Nat} {t : TGs} (h : PG X e (gName i)) (hr : SGs X es t is) (hs : (assignEach (e :: es) X.env).map (·.2) = assign e X.env :: (assignEach es X.env).map (·.2) := by rfl) : SGs X (e :: es) (gCons (gName i) t) (i :: is) :=
  ⟨pgs_cons h hr.pg hs, tgsk_cons hr.ok⟩
theorem RE.setAll {K : PySem.W.Frag} {B ρ : List Addr} {H : Hp} {is : List Nat} : ∀ {env : En} {σ : L2.St} {ds : List D} {vs : List V}, RE K B ρ H env σ → RVs K B ρ H ds vs → RE K B ρ H (setAllE env is ds) (setAllS σ is vs) := by
  induction is with
  | nil => intro env σ ds vs h r; cases r <;> exact h
  | cons i is ih =>
    intro env σ ds vs h r
    cases r with
    | nil => exact h
    | cons r t => exact ih (h.set i r) t
theorem wipe_setAll : ∀ {is : List Nat} {σ : L2.St} {xs : List V} {vs : List Nat}, (∀ i ∈ is, i ∈ vs) → wipe (setAllS σ is xs) vs = wipe σ vs
  | [], _, xs, _, _ => by cases xs <;> rfl
  | i :: is, _, [], _, _ => rfl
  | i :: is, σ, x :: xs, vs, h => by
    show wipe (setAllS (σ.set i (some x)) is xs) vs = _
    rw [wipe_setAll fun j hj => h j (List.mem_cons_of_mem _ hj), wipe_set (h i List.mem_cons_self)]
theorem unTup_ok {K : PySem.W.Frag} {B ρ : List Addr} {H : Hp} {is : List Nat} {d : D} {v : V} {env env' : En} {σ : L2.St} (r : RV K B ρ H d v) (re : RE K B ρ H env σ) (e : unTup is d env = some env') :
    ∃ a xs, v = .ref a ∧ SqT K H a xs ∧ xs.length = is.length ∧ RE K B ρ H env' (setAllS σ is xs) := by
  cases r with
  | @tup a vs ds h1 h2 =>
    unfold unTup at e
    simp only at e
    cases hf : Nat.beq ds.length is.length with
    | false => rw [hf] at e; cases e
    | true =>
      rw [hf] at e; cases e
      exact ⟨a, vs, rfl, h1.sq, by rw [← h2.length]; exact Nat.eq_of_beq_eq_true hf, re.setAll h2⟩
  | _ => cases e
theorem tgk_tup {K : PySem.W.Frag} {n : Nat} {t : TGs} {is : List Nat} (h : TgsOk t is) (hl : is.length = n) : TgOk K (gTup K n t) (unTup is) is := fun B L ρ H d v env env' σ Q r re e k => by
  obtain ⟨a, xs, rfl, h1, h2, h3⟩ := unTup_ok r re e
  exact ⟨a, xs, rfl, h1, h2.trans hl, h xs σ H Q h2 (k _ h3 fun vs hv => wipe_setAll hv)⟩
theorem sg_tup {es : List Expr} {k n : Nat} {t : TGs} {is : List Nat} (h : SGs X es t is) (hc : X.calm = true) (hl : is.length = n) (hn : (assignEach es X.env).length = n := by rfl) (hst : (assignEach es X.env).findIdx? (·.1) = none := by rfl) : SG X (.Tuple es k pos) (gTup X.K n t) (unTup is) is :=
  ⟨pg_tup hc h.pg hn hst, tgk_tup h.ok hl⟩
/-- target = e -/
theorem ss_asgT {tg : Expr} {t : TG} {is : List Nat} (hg : SG X tg t (unTup is) is) (he : SE X w e fe) (hs : swapsWithSole [tg] e pos.line X.env = pure false := by rfl) (hw : swappedStores [tg] e X.env = pure none := by rfl)
    (h1 : (assignEach [tg] X.env).map (·.2) = [assign tg X.env] := by rfl) : SS X w (.Assign [tg] e pos) (sAsgT is fe) := PS.imp (ps_asg he hg.pg hs hw h1) fun D σ H ⟨B, L, ρ, S, env, A, g⟩ =>
  tE_mono (tE_bindS A g) fun x H1 ⟨B, L, ρ, S, d, A, r, g⟩ => by
    cases hu : unTup is d env with
    | none => rw [hu] at g; exact g.elim
    | some env' =>
      rw [hu] at g
      exact hg.ok B L ρ H1 d x env env' σ D.nx r A.re hu fun σ' re _ => GS.nx0 g A.rh re
theorem tA_bindS {D : Ends} {G : Pg} {W : WX} {xm : XM} {B L ρ S env σ H} {k : List Sf.D → Sto → SR} (A : At G B L ρ S env σ H) (g : GS G W xm B L ρ H ((fs env S).bindS k) D) :
    tA G W xm fs σ H fun x H1 => ∃ B L ρ S d, At G B L ρ S env σ H1 ∧ RVs G.K B ρ H1 d x ∧ GS G W xm B L ρ H1 (k d S) D := by
  refine ⟨B, L, ρ, S, env, A, ?_⟩
  revert g
  cases fs env S with
  | ok d S' => exact fun g v ρ' H' p R r => ⟨B, L, ρ', S', d, A.step p R, r, GS.step g p⟩
  | exc c S' => exact fun g => g σ
  | bad => exact fun g => g
/-- a, b = x, y; a, b, c = x, y, z with plain local names -/
def len2 : List D → Bool
  | [_, _] => true
  | _ => false
def len3 : List D → Bool
  | [_, _, _] => true
  | _ => false
def sPar2 (i j : Nat) (fs : FA) : FS := fun env S => (fs env S).bindS fun xs S1 => bif len2 xs then .nx (setAllE env [i, j] xs) S1 else .bad
def sPar3 (i j k : Nat) (fs : FA) : FS := fun env S => (fs env S).bindS fun xs S1 => bif len3 xs then .nx (setAllE env [i, j, k] xs) S1 else .bad
theorem ss_par2 {i j : Nat} {ta : TA} (h : PS X st (tPar i j ta)) (ha : ∀ σ H Q, tA (pg X) w.W w.xm fs σ H Q → ta σ H Q) : SS X w st (sPar2 i j fs) := PS.imp h fun D σ H ⟨B, L, ρ, S, env, A, g⟩ =>
  ha _ _ _ (tA_mono (tA_bindS A g) fun x H1 ⟨B, L, ρ, S, d, A, r, g⟩ => by
    match d, r, g with
    | [a, b], .cons r1 (.cons r2 .nil), g => exact ⟨_, _, rfl, GS.nx0 g A.rh ((A.re.set i r1).set j r2)⟩)
theorem ss_par3 {i j k : Nat} {ta : TA} (h : PS X st (tPar3 i j k ta)) (ha : ∀ σ H Q, tA (pg X) w.W w.xm fs σ H Q → ta σ H Q) : SS X w st (sPar3 i j k fs) := PS.imp h fun D σ H ⟨B, L, ρ, S, env, A, g⟩ =>
  ha _ _ _ (tA_mono (tA_bindS A g) fun x H1 ⟨B, L, ρ, S, d, A, r, g⟩ => by
    match d, r, g with
    | [a, b, c], .cons r1 (.cons r2 (.cons r3 .nil)), g => exact ⟨_, _, _, rfl, GS.nx0 g A.rh (((A.re.set i r1).set j r2).set k r3)⟩)

/-! ### o[i] = e, o[i] op= e, x op= e -/
theorem setO_ok {G : Pg} {B L ρ : List Addr} {S S' : Sto} {H : Hp} {o i v : D} {ov iv vv : V} {Q : Hp → Prop} (R : RH G B L ρ H S) (ro : RV G.K B ρ H o ov) (ri : RV G.K B ρ H i iv) (rv : RV G.K B ρ H v vv) (e : setO o i v S = some S')
    (q : ∀ H', Post L ρ H ρ H' → RH G B L ρ H' S' → Q H') : rSetL ov iv vv H Q := by
  cases ro with
  | @loc n a h =>
    cases ri with
    | int k =>
      unfold setO at e
      simp only at e
      cases q1 : S[n]? with
      | none => rw [q1] at e; cases e
      | some ob =>
        rw [q1] at e
        cases ob with
        | lst l =>
          simp only at e
          cases q2 : ixN l.length k with
          | none => rw [q2] at e; cases e
          | some j =>
            rw [q2] at e; cases e
            obtain ⟨vs, h1, h2⟩ := R.ob n a _ h q1
            have hl : a ∉ L := R.notL h1 fun _ _ z => nomatch z
            refine ⟨a, vs, k, j, rfl, rfl, h1, by rw [← h2.length]; exact q2, ?_⟩
            exact q _ (Post.wr h hl) (R.wr h hl ⟨_, upd_same, RVs.mono (Post.wr (L := L) h hl) _ _ (h2.set rv j)⟩)
        | _ => cases e
    | _ => cases e
  | _ => cases e
theorem ss_setIx {o i : Expr} {opos : Pos} (he : SE X w e fe) (ho : SE X w o fo) (hi : SE X w i fi) (hs : swapsWithSole [.Subscript o i opos] e pos.line X.env = pure false := by rfl) (hw : swappedStores [.Subscript o i opos] e X.env = pure none := by rfl)
    (h1 : (assignEach [.Subscript o i opos] X.env).map (·.2) = [assign (.Subscript o i opos) X.env] := by rfl)
    (ha : ∀ v, assign (.Subscript o i opos) X.env v = (do
      let ov ← holding [v] (eval o X.env)
      let iv ← holding [v, ov] (eval i X.env)
      standAt opos
      holding [v, ov, iv] (setItem ov iv v)
      release [v, ov, iv] []) := by intro _; rfl) : SS X w (.Assign [.Subscript o i opos] e pos) (sAsgIx fe fo fi) :=
  PS.imp (ps_asg he (pg_sub ho hi set_list ha) hs hw h1) fun D σ H ⟨B, L, ρ, S, env, A, g⟩ =>
    tE_mono (tE_bindS3 A g) fun x H1 h => tE_mono h fun y H2 h => tE_mono h fun z H3 ⟨B, L, ρ, S, d, d', d'', A, r, r', r'', g⟩ => by
      cases hu : setO d' d'' d S with
      | none => rw [hu] at g; exact g.elim
      | some S' =>
        rw [hu] at g
        exact setO_ok A.rh r' r'' r hu fun H' p R => g σ ρ H' p R (A.re.mono p)
theorem ss_aug {i : Nat} {x : Str} {op : Operator} {r : R2} {g : Op2} {pos' : Pos} (hN : X.N.Nodup) (hi : X.N[i]? = some x) (hx : Loc X.env.scope x) (ho : OpR X (inplaceOp op) r) (h : Ok2 (pg X) r g) (he : SE X w e fe) (hf : X.fn x = true ∨ X.env.scope.names.lookup x = some .local := by first | exact .inl rfl | exact .inr rfl | assumption) :
    SS X w (.AugAssign (.Name x pos') op e pos) (sAug i g fe) := PS.imp (ps_aug hN hi hx he ho hf) fun D σ H ⟨B, L, ρ, S, env, A, gg⟩ => by
  unfold sAug fVar at gg
  cases q : env[i]? with
  | none => rw [q] at gg; exact gg.elim
  | some d =>
    rw [q] at gg
    rcases A.re.at' i d q with z | ⟨v, e1, rv⟩
    · subst z; exact gg.elim
    · have gg' : GS (pg X) w.W w.xm B L ρ H ((fe env S).bindS fun y S2 => match g d y S2 with
          | some (z, S3) => .nx (env.set i z) S3
          | none => .bad) D := by
        cases d
        case und => exact gg.elim
        all_goals exact gg
      refine ⟨v, e1, ?_⟩
      refine ⟨B, L, ρ, S, env, A, ?_⟩
      revert gg'
      cases fe env S with
      | ok d2 S' =>
        intro gg' v2 ρ' H' p R r2
        have g2 := GS.step gg' p
        revert g2
        show GS (pg X) w.W w.xm B L ρ' H' (match g d d2 S' with
          | some (z, S3) => .nx (env.set i z) S3
          | none => .bad) D → _
        cases hu : g d d2 S' with
        | none => exact fun g2 => g2.elim
        | some zs =>
          obtain ⟨z, S3⟩ := zs
          intro g2
          exact h B L ρ' S' S3 H' d d2 z v v2 _ R (rv.mono p) r2 hu fun v3 ρ3 H3 p3 R3 r3 => g2 _ ρ3 H3 p3 R3 ((A.re.mono (p.trans p3)).set i r3)
      | exc c S' => exact fun g => g σ
      | bad => exact fun g => g
theorem ss_augIx {o i : Expr} {op : Operator} {r : R2} {g : Op2} {tpos : Pos} (ho' : OpR X (inplaceOp op) r) (h : Ok2 (pg X) r g) (ho : SE X w o fo) (hi : SE X w i fi) (he : SE X w e fe)
    (ha : ∀ ov iv new, augStore i ov iv new = (do holding [new, ov, iv] (setItem ov iv new); release [new, ov, iv] []; pure .next) := by intros; rfl) : SS X w (.AugAssign (.Subscript o i tpos) op e pos) (sAugIx g fo fi fe) :=
  PS.imp (ps_augS (tget := rIxL X.K) (tset := rSetL) (tip := r) ho hi pget_list he ho' set_list ha) fun D σ H ⟨B, L, ρ, S, env, A, gg⟩ =>
    tE_mono (tE_bindS2 A gg) fun x H1 h1 => tE_mono h1 fun y H2 ⟨B, L, ρ, S, d, d', A, r1, r2, g2⟩ => by
      cases d with
      | loc n =>
        cases d' with
        | int k =>
          unfold augK at g2
          simp only at g2
          cases hu : oIx (.loc n) (.int k) S with
          | none => rw [hu] at g2; exact g2.elim
          | some xs =>
            obtain ⟨x1, S1⟩ := xs
            rw [hu] at g2
            unfold oIx at hu
            simp only at hu
            cases e1 : lsR (.loc n) S with
            | none => rw [e1] at hu; cases hu
            | some l =>
              rw [e1] at hu
              simp only at hu
              cases e2 : ixD l k with
              | none => rw [e2] at hu; cases hu
              | some d3 =>
                rw [e2] at hu; cases hu
                obtain ⟨a, vs, rfl, h5, h6⟩ := lsR_ok (G := pg X) A.rh r1 e1
                obtain ⟨v, e3, r3⟩ := ixD_ok (G := pg X) h6 e2
                cases r2
                refine ⟨a, vs, k, v, rfl, rfl, h5, e3, ?_⟩
                refine ⟨B, L, ρ, S, env, A, ?_⟩
                revert g2
                show GS (pg X) w.W w.xm B L ρ H2 ((fe env S).bindS fun y S4 => augJ g env (.loc n) (.int k) x1 y S4) D → _
                cases fe env S with
                | ok d4 S4 =>
                  intro g2 v4 ρ4 H4 p4 R4 r4
                  have g4 := GS.step g2 p4
                  revert g4
                  show GS (pg X) w.W w.xm B L ρ4 H4 (augJ g env (.loc n) (.int k) x1 d4 S4) D → _
                  unfold augJ
                  cases hg : g x1 d4 S4 with
                  | none => exact fun g => g.elim
                  | some zs =>
                    obtain ⟨z, S5⟩ := zs
                    intro g4
                    refine h B L ρ4 S4 S5 H4 x1 d4 z v v4 _ R4 (r3.mono p4) r4 hg fun v5 ρ5 H5 p5 R5 r5 => ?_
                    have g5 : GS (pg X) w.W w.xm B L ρ4 H4 (sto env (setO (.loc n) (.int k) z S5)) D := g4
                    cases hs : setO (.loc n) (.int k) z S5 with
                    | none => rw [hs] at g5; exact g5.elim
                    | some S6 =>
                      rw [hs] at g5
                      refine setO_ok R5 ((r1.mono p4).mono p5) (.int k) r5 hs fun H6 p6 R6 => ?_
                      exact g5 σ ρ5 H6 (p5.trans p6) R6 (A.re.mono (p4.trans (p5.trans p6)))
                | exc c S' => exact fun g => g σ
                | bad => exact fun g => g
        | _ => cases g2
      | _ => cases g2

/-! ### while -/
theorem ss_while {c : Expr} {body : List Stmt} (N : Nat) (hp : PassesOwn (model X.prog X.w) X.A X.env X.xe) (hc : ST X w c fc) (hb : SSs X w body f) : SS X w (.While c body [] pos) (whileL fc f N) := PS.imp (ps_while hp hc hb) fun D σ H ⟨B, L, ρ, S, env, A, gg⟩ => by
  refine ⟨fun m σ H => ∃ B L ρ S env, At (pg X) B L ρ S env σ H ∧ GS (pg X) w.W w.xm B L ρ H (whileL fc f m env S) D, ⟨N, B, L, ρ, S, env, A, gg⟩, fun m σ H ⟨B, L, ρ, S, env, A, g⟩ => ?_⟩
  cases m with
  | zero => exact g.elim
  | succ m =>
    unfold whileL at g
    refine tT_mono (tT_bindS A g) fun b H1 ⟨B, L, ρ, S, A, g⟩ => ?_
    cases b with
    | false => exact iteF (GS.nx0 g A.rh A.re)
    | true =>
      refine iteT ⟨fun σ H => ∃ B L ρ S env, At (pg X) B L ρ S env σ H ∧ GS (pg X) w.W w.xm B L ρ H (whileL fc f m env S) D, fun σ' H' h => ⟨m, Nat.lt_succ_self m, h⟩, ?_⟩
      refine ⟨B, L, ρ, S, env, A, ?_⟩
      revert g
      show GS (pg X) w.W w.xm B L ρ H1 (match f env S with
        | .nx env' S' => whileL fc f m env' S'
        | .ct env' S' => whileL fc f m env' S'
        | .bk env' S' => .nx env' S'
        | r => r) D → _
      cases f env S with
      | nx env' S' => exact fun g σ' ρ' H' p R re => ⟨B, L, ρ', S', env', ⟨R, re⟩, GS.step g p⟩
      | ct env' S' => exact fun g σ' ρ' H' p R re => ⟨B, L, ρ', S', env', ⟨R, re⟩, GS.step g p⟩
      | bk e S' => exact fun g => g
      | rt e S' => exact fun g => g
      | xc c S' => exact fun g => g
      | bad => exact fun g => g
end
end Sf
end

section
set_option Elab.async false
set_option maxRecDepth 100000
set_option linter.all false
/-! SfE: enumerate over a tuple; a walk over a list or a tuple. -/
namespace Sf
open PySem PySem.Spec PyProof.Rows L2
open AutoSeq1 (wpAny_loadPart')

theorem meets_enum_newT (l : Addr) (items : Array Value) (n : Nat) (dct : Option Addr) (sl : Array (Option Value)) :
    Meets (Builtin.«enumerate.__new__» ⟨[.type "enumerate", .ref l], []⟩) (fun _ R s => s.heap.get? l = some { cls := .type "tuple", dict := dct, data := .seq items n, slots := sl } ∧
      R (.ok (.ret (.ref (s.heap.push { cls := .type "tuple_iterator", data := .fields #[.ref l, .int 0 0] }).objs.size)))
        { s with heap := (s.heap.push { cls := .type "tuple_iterator", data := .fields #[.ref l, .int 0 0] }).push { cls := .type "enumerate", data := .fields #[.none, .bool false, .ref s.heap.objs.size, rawInt 0, .none, .none] } }) :=
  .of_wp fun prog w A R s h => by
    obtain ⟨hp, g, d, tk, os⟩ := s; obtain ⟨hl, h⟩ := h
    have hsub := sub_enumerate
    have hL : Heap.IsTuple (Shared.heap ⟨hp, g, d, tk, os⟩) l items := ⟨_, hl, rfl, n, rfl⟩
    wp_walk using wpAny_loadPart' hl
    refine wpAny_stack_any fun st => wpAny_pure ?_
    split
    · rename_i c _ _ _ _ _
      cases (c == Value.type "enumerate")
      · wp_walk using wpAny_loadPart' hl, wpAny_pyIter_tuple hL
        exact ⟨_, rfl, h⟩
      · wp_walk using wpAny_loadPart' hl, wpAny_pyIter_tuple hL
        exact ⟨_, rfl, h⟩
    · wp_walk using wpAny_loadPart' hl, wpAny_pyIter_tuple hL
      exact ⟨_, rfl, h⟩
theorem call_enum_tuple {prog : Program} {w : World} {A : Around} {E : Value → Shared → Prop} {s : Shared} {l : Addr} {items : Array Value} {Q : Value → Shared → Prop} (hL : s.heap.IsTuple l items)
    (h : ∀ h', IsEnum h' (s.heap.objs.size + 1) s.heap.objs.size 0 .none → h'.IsTupleIter s.heap.objs.size l 0 → h'.objs.size = s.heap.objs.size + 2 →
      (∀ b o, s.heap.get? b = some o → h'.get? b = some o) → Q (.ref (s.heap.objs.size + 1)) { s with heap := h' }) :
    wpAny (model prog w) A (call (.type "enumerate") [.ref l]) Q E s := by
  obtain ⟨⟨c, dct, dt, sl⟩, hl, hc, n, hd⟩ := hL
  replace hc : c = .type "tuple" := hc
  replace hd : dt = .seq items n := hd
  subst hc hd
  refine callType_new F.called_enumerate (by decide) (F.typeCall_enumerate_1 _) (F.newCall_enumerate_1 _) (fun obj => F.args_object_init_2 obj _) F.entry_enumerate_new
    (meets_enum_newT l items n dct sl) ⟨hl, ?_⟩
  have hz : (s.heap.push { cls := .type "tuple_iterator", data := .fields #[.ref l, .int 0 0] }).objs.size = s.heap.objs.size + 1 := Heap.size_push ..
  show _ ∧ _
  rw [hz]
  have he : IsEnum ((s.heap.push { cls := .type "tuple_iterator", data := .fields #[.ref l, .int 0 0] }).push
      { cls := .type "enumerate", data := .fields #[.none, .bool false, .ref s.heap.objs.size, rawInt 0, .none, .none] }) (s.heap.objs.size + 1) s.heap.objs.size 0 .none := by
    have := Heap.get?_push_size (s.heap.push { cls := .type "tuple_iterator", data := .fields #[.ref l, .int 0 0] })
      (o := { cls := .type "enumerate", data := .fields #[.none, .bool false, .ref s.heap.objs.size, rawInt 0, .none, .none] }) rfl
    rw [hz] at this; exact this
  refine ⟨⟨_, he, rfl⟩, h _ he ⟨_, Heap.get?_push_of_some _ (Heap.get?_push_size _ rfl), rfl, rfl⟩ (by rw [Heap.size_push, hz]) fun b o x => Heap.get?_push_of_some _ (Heap.get?_push_of_some _ x)⟩

/-- the tuple at a, each item in a new pair -/
def IteT (K : PySem.W.Frag) (a : Addr) : It :=
  ⟨fun i H => ∃ (xs : List V) (x : V), SqT K H a xs ∧ xs[i]? = some x, fun i H v H' => ∃ T x, v = .ref T ∧ H T = none ∧ H' = upd H T (.tup [.int (i : Nat), x]) ∧ ∀ xs, SqT K H a xs → xs[i]? = some x, fun i H => ∃ xs : List V, SqT K H a xs ∧ xs.length = i⟩
theorem turn_enumT {P : Program} {w : World} {K : PySem.W.Frag} {elts : List Expr} {kk : Nat} {tpos : Pos} (a e it : Addr) :
    Turn P w K (.Tuple elts kk tpos) (IteT K a) [e, it] e (fun i h => (∃ old, IsEnum h e it ((i : Nat) : Int) old) ∧ h.IsTupleIter it a i ∧ e ≠ it ∧ a ≠ it ∧ a ≠ e) where
  mem := by simp
  obj := fun i h st b hb => by
    obtain ⟨⟨old, he⟩, ⟨o, ho, hc, hd⟩, _⟩ := st
    have e' : b = e ∨ b = it := by simpa using hb
    rcases e' with z | z
    · rw [z]; exact ⟨_, he, fun v q => nomatch q⟩
    · rw [z]; exact ⟨o, ho, fun v q => by rw [hd] at q; cases q⟩
  keep := fun i h h' st k => let ⟨⟨old, he⟩, hi, hne⟩ := st; ⟨⟨old, k e (by simp) _ he⟩, hi.at fun o q => k it (by simp) o q, hne⟩
  item := by
    intro X hP hw hK hc i pins s σ H E I hf st hg
    subst hP hw hK
    obtain ⟨⟨old, he⟩, hit, hne, ha1, ha2⟩ := st
    obtain ⟨xs, x, hq, hx⟩ := hg
    obtain ⟨its, rv, p, hz⟩ := I.tuple hq
    obtain ⟨u, hu, ru⟩ := rv.get hx
    have hel : e < s.heap.objs.size := Heap.lt_size he
    have hil : it < s.heap.objs.size := by obtain ⟨_, q, _⟩ := hit; exact Heap.lt_size q
    have hlt : i < its.toArray.size := by
      have := (List.getElem?_eq_some_iff.mp hu).1
      simpa using this
    refine wpAny_pyNext_enum_itemD (PySem.Draws.tuple (A := X.A.in1) (I.ok.hd hc) it a ha1 its.toArray) he ⟨hit, p⟩ hlt hne (by simp [hne, Ne.symm ha2]) fun y h' tk hy ho st' hT hsz hk => ?_
    have hyu : y = u := by
      have h1 : its[i]? = some y := by simpa using hy
      rw [hu] at h1
      exact (Option.some.inj h1).symm
    subst hyu
    refine ⟨_, rfl, wpAny_letOwnedTupleGo_enum (s := { s with heap := h', toks := tk + 1 }) ho fun h'' he' sb => ?_⟩
    have hT2 : h''.get? s.heap.objs.size = some { cls := .type "tuple", data := .seq #[.int i tk, y] } := (sb.2 _ (Nat.ne_of_gt hel)).trans hT
    have new : ObjOk X.prog X.w (upd H s.heap.objs.size (.tup [.int (i : Nat), x])) h'' s.heap.objs.size (.tup [.int (i : Nat), x]) :=
      ⟨by show 2 ≤ sizeLine; decide, [.int i tk, y], .cons ⟨_, rfl⟩ (.cons ru .nil), ⟨_, hT2, rfl, _, rfl⟩⟩
    have I1 : Inv X pins σ (upd H s.heap.objs.size (.tup [.int (i : Nat), x])) { s with heap := h'', toks := tk + 1 } :=
      I.turnedNew (ch := [e, it]) (fun b ob hb q => (sb.2 b (fun z => hb (by simp [z]))).trans (hk b ob (fun z => hb (by simp [z])) (fun z => hb (by simp [z])) q)) hf (Nat.le_refl _) new
    refine ⟨.ref s.heap.objs.size, _, I1, rfl, ⟨_, x, rfl, I.hok.fresh (Nat.le_refl _), rfl, fun ys hy => by rw [I.tuple_inj hy hq]; exact hx⟩, ⟨⟨y, ?_⟩, st'.1.at fun o q => (sb.2 it (Ne.symm hne)).trans q, hne, ha1, ha2⟩, fun b hb => ?_⟩
    · have e1 : ((i + 1 : Nat) : Int) = (i : Int) + 1 := by omega
      rw [e1]; exact he'
    · have hb' : b < s.heap.objs.size := by
        have e' : b = e ∨ b = it := by simpa using hb
        rcases e' with z | z
        · rw [z]; exact hel
        · rw [z]; exact hil
      rw [upd_ne (Nat.ne_of_lt hb')]
      exact (hf b hb).1
  done := by
    intro X hP hw hK hc i pins s σ H E I hf st hg
    subst hP hw hK
    obtain ⟨⟨old, he⟩, hit, hne, ha1, ha2⟩ := st
    obtain ⟨xs, hq, hx⟩ := hg
    obtain ⟨its, rv, p, hz⟩ := I.tuple hq
    obtain ⟨f0, f1, f2, f3, f4, f5⟩ := hf it (by simp)
    have hl := rv.length
    have hsz : its.toArray.size = i := by simp; omega
    refine wpAny_pyNext_enum_endD (PySem.Draws.tuple (A := X.A.in1) (I.ok.hd hc) it a ha1 its.toArray) he ?_ fun h' eb => ⟨rfl, I.turned (t' := s.toks) (fun b o hb q => eb b o hb q) f0 f1 f3 f4 f5⟩
    rw [hsz]
    exact ⟨hit, p⟩
  self := fun A i s Q E st h => let ⟨⟨_, he⟩, _⟩ := st; wpAny_pyIter_enum he h
def iEnumT (K : PySem.W.Frag) (ta : TA) : TI := fun σ H R => ta σ H fun vs H1 => ∃ a xs, vs = [.ref a] ∧ SqT K H1 a xs ∧ R (IteT K a) H1
theorem pi_enumT {X : Cx} {e : Expr} {ta : TA} {p pos tpos : Pos} {elts : List Expr} {kk : Nat} (hg : Gl X "enumerate") (hm : X.mg "enumerate" = none) (ha : PA X [e] ta) (hs : starEach [e] X.env = [(false, eval e X.env)] := by rfl) :
    PI X (.Tuple elts kk tpos) (.Call (.Name "enumerate" p) [e] [] pos) (iEnumT X.K ta) := by
  refine ⟨fun pins s σ H R I h => ?_⟩
  refine Call_ (ld_blt I hg hm boot_enumerate (PyProof.Rows.callWith_type1 (thn (ha.run pos pins s σ H _ I h) fun us s1 ⟨vs, H1, I1, r1, q1⟩ => ?_) hs rfl))
  obtain ⟨a, xs, ex, hq, q⟩ := q1
  subst ex
  cases r1 with
  | cons r rr =>
    cases rr
    cases r
    obtain ⟨its, rv, p', hz⟩ := I1.tuple hq
    have hal : a < s1.heap.objs.size := by obtain ⟨o, q, _⟩ := id p'; exact Heap.lt_size q
    refine call_enum_tuple (show s1.heap.IsTuple a its.toArray from p') fun h' he hit hsz hk => wpAny_pyIter_enum he ?_
    have I2 : Inv X pins σ H1 { s1 with heap := h' } := I1.kept (t' := s1.toks) hk
    refine ⟨s1.heap.objs.size + 1, [s1.heap.objs.size + 1, s1.heap.objs.size], _, _, H1, rfl, I2, turn_enumT a (s1.heap.objs.size + 1) s1.heap.objs.size, ⟨⟨.none, he⟩, hit, Nat.succ_ne_self _, Nat.ne_of_lt hal, Nat.ne_of_lt (Nat.lt_succ_of_lt hal)⟩, fun b hb => ?_, q⟩
    have e' : b = s1.heap.objs.size + 1 ∨ b = s1.heap.objs.size := by simpa using hb
    have hle : s1.heap.objs.size ≤ b := by
      rcases e' with z | z
      · rw [z]; exact Nat.le_add_right _ _
      · rw [z]; exact Nat.le_refl _
    exact I1.fpOk hle (I1.hok.fresh hle)
/-- a list or a tuple, walked -/
def iSeq (K : PySem.W.Frag) (tl : TE) : TI := fun σ H R => tl σ H fun x H1 => ∃ a, x = .ref a ∧ (((∃ xs, SqL K H1 a xs) ∧ R (Itl K a) H1) ∨ ((∃ xs, SqT K H1 a xs) ∧ R (Itt K a) H1))
theorem pi_seq {X : Cx} {tg l : Expr} {tl : TE} (hl : PE X l tl) : PI X tg l (iSeq X.K tl) := by
  refine ⟨fun pins s σ H R I h => ?_⟩
  refine thn (hl.run pins s σ H _ I h) fun v s1 ⟨x, H1, I1, r1, q1⟩ => ?_
  obtain ⟨a, e, q⟩ := q1
  subst e
  cases r1
  rcases q with ⟨⟨xs, hq⟩, q⟩ | ⟨⟨xs, hq⟩, q⟩
  · obtain ⟨its, rv, p, hz⟩ := I1.list hq
    refine wpAny_pyIter_list p.isList ?_
    refine ⟨s1.heap.objs.size, [s1.heap.objs.size], _, _, H1, rfl, I1.kept (t' := s1.toks) fun b o e => Heap.get?_push_of_some _ e, turn_list a _, ⟨_, Heap.get?_push_size _ rfl, rfl, rfl⟩, fun b hb => ?_, q⟩
    have e : b = s1.heap.objs.size := by simpa using hb
    subst e
    exact I1.fpOk (Nat.le_refl _) (I1.hok.fresh (Nat.le_refl _))
  · obtain ⟨its, rv, p, hz⟩ := I1.tuple hq
    refine wpAny_pyIter_tuple (show s1.heap.IsTuple a its.toArray from p) ?_
    refine ⟨s1.heap.objs.size, [s1.heap.objs.size], _, _, H1, rfl, I1.kept (t' := s1.toks) fun b o e => Heap.get?_push_of_some _ e, turn_tuple a _, ⟨_, Heap.get?_push_size _ rfl, rfl, rfl⟩, fun b hb => ?_, q⟩
    have e : b = s1.heap.objs.size := by simpa using hb
    subst e
    exact I1.fpOk (Nat.le_refl _) (I1.hok.fresh (Nat.le_refl _))
end Sf
end

section
set_option Elab.async false
set_option maxRecDepth 100000
set_option linter.all false
/-! Sf6: for loops, comprehensions. -/
namespace Sf
open PySem PySem.Spec PyProof.Rows L2 RZ

theorem RV.re {K : PySem.W.Frag} {B1 ρ1 B2 ρ2 : List Addr} {H : Hp} (hB : ∀ a, a ∈ B2 ∨ a ∈ ρ2 → a ∈ B1 ∨ a ∈ ρ1) (hp : ∀ (n : Nat) (a : Addr), ρ1[n]? = some a → ρ2[n]? = some a) :
    ∀ {d : D} {v : V}, RV K B1 ρ1 H d v → RV K B2 ρ2 H d v := by
  have out : ∀ a, a ∉ B1 → a ∉ ρ1 → a ∉ B2 ∧ a ∉ ρ2 := fun a h1 h2 => ⟨fun z => (hB a (.inl z)).elim h1 h2, fun z => (hB a (.inr z)).elim h1 h2⟩
  intro d v h
  refine RV.rec (motive_1 := fun d v _ => RV K B2 ρ2 H d v) (motive_2 := fun ds vs _ => RVs K B2 ρ2 H ds vs) .non .bl .int .str (fun h _ ih => ?_) (fun h1 h2 h3 _ ih => ?_) (fun h _ ih => ?_) (fun h => .loc (hp _ _ h)) (fun h => .glob h) .nil (fun _ _ ih1 ih2 => .cons ih1 ih2) h
  · exact .tup ⟨(out _ h.1 h.2.1).1, (out _ h.1 h.2.1).2, h.2.2⟩ ih
  · exact .lst (out _ h1 h2).1 (out _ h1 h2).2 h3 ih
  · exact .scr (h.imp (fun h => ⟨(out _ h.1 h.2.1).1, (out _ h.1 h.2.1).2, h.2.2⟩) id) ih
theorem RVs.re {K : PySem.W.Frag} {B1 ρ1 B2 ρ2 : List Addr} {H : Hp} (hB : ∀ a, a ∈ B2 ∨ a ∈ ρ2 → a ∈ B1 ∨ a ∈ ρ1) (hp : ∀ (n : Nat) (a : Addr), ρ1[n]? = some a → ρ2[n]? = some a) :
    ∀ {ds : List D} {vs : List V}, RVs K B1 ρ1 H ds vs → RVs K B2 ρ2 H ds vs
  | _, _, .nil => .nil
  | _, _, .cons h t => .cons (h.re hB hp) (RVs.re hB hp t)
/-- an address that is avoided is written -/
theorem RV.av {K : PySem.W.Frag} {B ρ : List Addr} {H : Hp} {p : Addr} {o : HO} (hp : p ∈ B) : ∀ {d : D} {v : V}, RV K B ρ H d v → RV K B ρ (upd H p o) d v := by
  intro d v h
  have ne : ∀ a, a ∉ B → a ≠ p := fun a h z => h (z ▸ hp)
  refine RV.rec (motive_1 := fun d v _ => RV K B ρ (upd H p o) d v) (motive_2 := fun ds vs _ => RVs K B ρ (upd H p o) ds vs) .non .bl .int .str (fun h _ ih => ?_) (fun h1 h2 h3 _ ih => ?_) (fun h _ ih => ?_) (fun h => .loc h) (fun h => .glob h) .nil (fun _ _ ih1 ih2 => .cons ih1 ih2) h
  · exact .tup ⟨h.1, h.2.1, by rw [upd_ne (ne _ h.1)]; exact h.2.2⟩ ih
  · exact .lst h1 h2 (by rw [upd_ne (ne _ h1)]; exact h3) ih
  · refine .scr (h.imp (fun h => ⟨h.1, h.2.1, ?_⟩) id) ih
    unfold Rd; rw [upd_ne (ne _ h.1)]; exact h.2.2
theorem RVs.av {K : PySem.W.Frag} {B ρ : List Addr} {H : Hp} {p : Addr} {o : HO} (hp : p ∈ B) : ∀ {ds : List D} {vs : List V}, RVs K B ρ H ds vs → RVs K B ρ (upd H p o) ds vs
  | _, _, .nil => .nil
  | _, _, .cons h t => .cons (h.av hp) (RVs.av hp t)
/-- a new address is avoided -/
theorem RV.addB {K : PySem.W.Frag} {B ρ : List Addr} {H : Hp} {p : Addr} {o : HO} (hn : H p = none) : ∀ {d : D} {v : V}, RV K B ρ H d v → RV K (p :: B) ρ (upd H p o) d v := by
  intro d v h
  have ne : ∀ a u, H a = some u → a ≠ p := fun a u h => ne_of_none h hn
  have nb : ∀ a u, a ∉ B → H a = some u → a ∉ p :: B := fun a u h1 h2 z => (List.mem_cons.mp z).elim (ne a u h2) h1
  refine RV.rec (motive_1 := fun d v _ => RV K (p :: B) ρ (upd H p o) d v) (motive_2 := fun ds vs _ => RVs K (p :: B) ρ (upd H p o) ds vs) .non .bl .int .str (fun h _ ih => ?_) (fun h1 h2 h3 _ ih => ?_) (fun h _ ih => ?_) (fun h => .loc h) (fun h => .glob h) .nil (fun _ _ ih1 ih2 => .cons ih1 ih2) h
  · exact .tup ⟨nb _ _ h.1 h.2.2, h.2.1, by rw [upd_ne (ne _ _ h.2.2)]; exact h.2.2⟩ ih
  · exact .lst (nb _ _ h1 h3) h2 (by rw [upd_ne (ne _ _ h3)]; exact h3) ih
  · refine .scr (h.imp (fun h => ?_) id) ih
    rcases h.2.2 with z | ⟨ob, z⟩
    · exact ⟨nb _ _ h.1 z, h.2.1, .inl (by rw [upd_ne (ne _ _ z)]; exact z)⟩
    · exact ⟨nb _ _ h.1 z, h.2.1, .inr ⟨ob, by rw [upd_ne (ne _ _ z)]; exact z⟩⟩
theorem RVs.addB {K : PySem.W.Frag} {B ρ : List Addr} {H : Hp} {p : Addr} {o : HO} (hn : H p = none) : ∀ {ds : List D} {vs : List V}, RVs K B ρ H ds vs → RVs K (p :: B) ρ (upd H p o) ds vs
  | _, _, .nil => .nil
  | _, _, .cons h t => .cons (h.addB hn) (RVs.addB hn t)

/-! ### what a walk gives -/
structure WalkOk (G : Pg) (L : List Addr) (J : It) (l : List D) (I : List Addr → List Addr → Hp → Prop) : Prop where
  mono : ∀ (B ρ ρ' : List Addr) (H H' : Hp), Post L ρ H ρ' H' → I B ρ H → I B ρ' H'
  addB : ∀ (B ρ : List Addr) (H : Hp) (p : Addr) (o : HO), H p = none → I B ρ H → I (p :: B) ρ (upd H p o)
  av : ∀ (B ρ : List Addr) (H : Hp) (p : Addr) (o : HO), p ∈ B → I B ρ H → I B ρ (upd H p o)
  stop : ∀ (B ρ : List Addr) (H : Hp), I B ρ H → J.stop l.length H
  go : ∀ (B ρ : List Addr) (H : Hp) (i : Nat), I B ρ H → i < l.length → J.go i H
  yld : ∀ (B ρ : List Addr) (S : Sto) (H H' : Hp) (i : Nat) (d : D) (x : V), I B ρ H → RH G B L ρ H S → l[i]? = some d → J.yld i H x H' → Post L ρ H ρ H' ∧ RH G B L ρ H' S ∧ RV G.K B ρ H' d x
abbrev rJ (G : Pg) (B L : List Addr) : List Addr → Hp → List D → It → Prop := fun ρ H l J => ∃ I, WalkOk G L J l I ∧ I B ρ H
def tI (G : Pg) (W : WX) (xm : XM) (f : FA) : TI := fun σ H R => ∃ B L ρ S env, At G B L ρ S env σ H ∧ GO G W xm B L ρ H σ (rJ G B L) (f env S) R
theorem PI.imp {X : Cx} {tg e : Expr} {t t' : TI} (h : PI X tg e t) (i : ∀ σ H Q, t' σ H Q → t σ H Q) : PI X tg e t' := ⟨fun pins s σ H Q I q => h.run pins s σ H Q I (i σ H Q q)⟩
abbrev SI (X : Cx) (w : Wx) (tg e : Expr) (f : FA) : Prop := PI X tg e (tI (pg X) w.W w.xm f)
def itemsD : D → Option (List D)
  | .tup l => some l
  | .lst l => some l
  | .scr l => some l
  | _ => none
def iSq (a : FE) : FA := fun env S => (a env S).bind fun x S1 => match itemsD x with
  | some l => .ok l S1
  | none => .bad
def rngL (lo : Int) : Nat → List D
  | 0 => []
  | n + 1 => .int lo :: rngL (lo + 1) n
def smallI (i : Int) : Bool := decide (-1000000000000 ≤ i) && decide (i ≤ 1000000000000)
def iRng (a : FE) : FA := fun env S => (a env S).bind fun x S1 => match x with
  | .int j => bif smallI j then .ok (rngL 0 j.toNat) S1 else .bad
  | _ => .bad
def iRngB (a b : FE) : FA := fun env S => (a env S).bind fun x S1 => (b env S1).bind fun y S2 => match x, y with
  | .int i, .int j => bif smallI i && smallI j then .ok (rngL i (j - i).toNat) S2 else .bad
  | _, _ => .bad
def enumL (k : Nat) : List D → List D
  | [] => []
  | d :: r => .tup [.int k, d] :: enumL (k + 1) r
def iEnumF (a : FE) : FA := fun env S => (a env S).bind fun x S1 => match x with
  | .tup l => .ok (enumL 0 l) S1
  | _ => .bad
def zipL : List D → List D → List D
  | a :: as, b :: bs => .tup [a, b] :: zipL as bs
  | _, _ => []
def iZipF (a b : FE) : FA := fun env S => (a env S).bind fun x S1 => (b env S1).bind fun y S2 => match x, y with
  | .tup l, .tup m => .ok (zipL l m) S2
  | _, _ => .bad
theorem rngL_len (lo : Int) (n : Nat) : (rngL lo n).length = n := by
  induction n generalizing lo with
  | zero => rfl
  | succ n ih => unfold rngL; rw [List.length_cons, ih]
theorem rngL_get {lo : Int} {n i : Nat} {d : D} (h : (rngL lo n)[i]? = some d) : d = .int (lo + i) := by
  induction n generalizing lo i with
  | zero => simp [rngL] at h
  | succ n ih =>
    unfold rngL at h
    cases i with
    | zero => simp at h; rw [← h]; simp
    | succ i => rw [ih (by simpa using h)]; congr 1; omega
theorem enumL_len (k : Nat) (l : List D) : (enumL k l).length = l.length := by
  induction l generalizing k with
  | nil => rfl
  | cons d r ih => unfold enumL; rw [List.length_cons, List.length_cons, ih]
theorem enumL_get {k i : Nat} {l : List D} {d : D} (h : (enumL k l)[i]? = some d) : ∃ e, l[i]? = some e ∧ d = .tup [.int ((k + i : Nat) : Int), e] := by
  induction l generalizing k i with
  | nil => simp [enumL] at h
  | cons a r ih =>
    unfold enumL at h
    cases i with
    | zero => simp at h; exact ⟨a, by simp, by rw [← h]; rfl⟩
    | succ i =>
      obtain ⟨e, h1, h2⟩ := ih (by simpa using h)
      exact ⟨e, by simpa using h1, by rw [h2]; congr 3; omega⟩
theorem zipL_len (l m : List D) : (zipL l m).length = min l.length m.length := by
  induction l generalizing m with
  | nil => simp [zipL]
  | cons d r ih =>
    cases m with
    | nil => simp [zipL]
    | cons e s => unfold zipL; rw [List.length_cons, ih, List.length_cons, List.length_cons]; omega
theorem zipL_get {i : Nat} {l m : List D} {d : D} (h : (zipL l m)[i]? = some d) : ∃ e f, l[i]? = some e ∧ m[i]? = some f ∧ d = .tup [e, f] := by
  induction l generalizing m i with
  | nil => simp [zipL] at h
  | cons a r ih =>
    cases m with
    | nil => simp [zipL] at h
    | cons b s =>
      unfold zipL at h
      cases i with
      | zero => simp at h; exact ⟨a, b, by simp, by simp, h.symm⟩
      | succ i => simpa using ih (by simpa using h)
section
variable {G : Pg} {L : List Addr}
/-- a list that stands still -/
theorem ScrAt.addB {K : PySem.W.Frag} {B ρ : List Addr} {H : Hp} {a p : Addr} {o : HO} {vs : List V} (hn : H p = none) (h : ScrAt K B ρ H a vs) : ScrAt K (p :: B) ρ (upd H p o) a vs := h.imp (fun h => by
  rcases h.2.2 with z | ⟨ob, z⟩
  · exact ⟨fun q => (List.mem_cons.mp q).elim (ne_of_none z hn) h.1, h.2.1, .inl (by rw [upd_ne (ne_of_none z hn)]; exact z)⟩
  · exact ⟨fun q => (List.mem_cons.mp q).elim (ne_of_none z hn) h.1, h.2.1, .inr ⟨ob, by rw [upd_ne (ne_of_none z hn)]; exact z⟩⟩) id
theorem walk_scr {a : Addr} {vs : List V} {l : List D} : WalkOk G L (Itl G.K a) l (fun B ρ H => ScrAt G.K B ρ H a vs ∧ RVs G.K B ρ H l vs) where
  mono := fun B ρ ρ' H H' p ⟨h, r⟩ => ⟨h.imp (fun h => ⟨h.1, p.outR h.2.1 h.2.2, p.rd h.2.1 h.2.2⟩) id, RVs.mono p _ _ r⟩
  addB := fun B ρ H p o hn ⟨h, r⟩ => ⟨h.addB hn, r.addB hn⟩
  av := fun B ρ H p o hp ⟨h, r⟩ => ⟨h.imp (fun h => ⟨h.1, h.2.1, by unfold Rd; rw [upd_ne (by rintro rfl; exact h.1 hp)]; exact h.2.2⟩) id, r.av hp⟩
  stop := fun B ρ H ⟨h, r⟩ => ⟨vs, h.sq, Nat.le_of_eq r.length.symm⟩
  go := fun B ρ H i ⟨h, r⟩ hi => by
    obtain ⟨v, e, _⟩ := r.get (List.getElem?_eq_getElem hi)
    exact ⟨vs, v, h.sq, e⟩
  yld := fun B ρ S H H' i d x ⟨h, r⟩ R hd ⟨e, y⟩ => by
    subst e
    obtain ⟨v, e, rv⟩ := r.get hd
    have := y vs h.sq
    rw [e] at this; cases this
    exact ⟨Post.refl, R, rv⟩
theorem walk_tup {a : Addr} {vs : List V} {l : List D} : WalkOk G L (Itt G.K a) l (fun B ρ H => TupAt B ρ H a vs ∧ RVs G.K B ρ H l vs) where
  mono := fun B ρ ρ' H H' p ⟨h, r⟩ => ⟨⟨h.1, p.out h.2.1 h.2.2, p.ext _ _ (.inl h.2.1) h.2.2⟩, RVs.mono p _ _ r⟩
  addB := fun B ρ H p o hn ⟨h, r⟩ => ⟨⟨fun z => (List.mem_cons.mp z).elim (ne_of_none h.2.2 hn) h.1, h.2.1, by rw [upd_ne (ne_of_none h.2.2 hn)]; exact h.2.2⟩, r.addB hn⟩
  av := fun B ρ H p o hp ⟨h, r⟩ => ⟨⟨h.1, h.2.1, by rw [upd_ne (by rintro rfl; exact h.1 hp)]; exact h.2.2⟩, r.av hp⟩
  stop := fun B ρ H ⟨h, r⟩ => ⟨vs, h.sq, Nat.le_of_eq r.length.symm⟩
  go := fun B ρ H i ⟨h, r⟩ hi => by
    obtain ⟨v, e, _⟩ := r.get (List.getElem?_eq_getElem hi)
    exact ⟨vs, v, h.sq, e⟩
  yld := fun B ρ S H H' i d x ⟨h, r⟩ R hd ⟨e, y⟩ => by
    subst e
    obtain ⟨v, e, rv⟩ := r.get hd
    have := y vs h.sq
    rw [e] at this; cases this
    exact ⟨Post.refl, R, rv⟩
theorem walk_rng {lo : Int} {n : Nat} : WalkOk G L (Itr lo n) (rngL lo n) (fun _ _ _ => True) where
  mono := fun _ _ _ _ _ _ _ => trivial
  addB := fun _ _ _ _ _ _ _ => trivial
  av := fun _ _ _ _ _ _ _ => trivial
  stop := fun _ _ _ _ => by rw [rngL_len]; exact Nat.le_refl _
  go := fun _ _ _ i _ hi => by rw [rngL_len] at hi; exact hi
  yld := fun B ρ S H H' i d x _ R hd ⟨e, y⟩ => by
    subst e y
    rw [rngL_get hd]
    exact ⟨Post.refl, R, .int _⟩
theorem walk_enum {a : Addr} {vs : List V} {l : List D} : WalkOk G L (IteT G.K a) (enumL 0 l) (fun B ρ H => TupAt B ρ H a vs ∧ RVs G.K B ρ H l vs) where
  mono := (walk_tup (G := G) (L := L)).mono
  addB := (walk_tup (G := G) (L := L)).addB
  av := (walk_tup (G := G) (L := L)).av
  stop := fun B ρ H ⟨h, r⟩ => ⟨vs, h.sq, by rw [enumL_len]; exact r.length.symm⟩
  go := fun B ρ H i ⟨h, r⟩ hi => by
    rw [enumL_len] at hi
    obtain ⟨v, e, _⟩ := r.get (List.getElem?_eq_getElem hi)
    exact ⟨vs, v, h.sq, e⟩
  yld := fun B ρ S H H' i d x ⟨h, r⟩ R hd ⟨T, v, e1, hn, e2, y⟩ => by
    subst e1 e2
    obtain ⟨e, he, rfl⟩ := enumL_get hd
    obtain ⟨v', e3, rv⟩ := r.get he
    have := y vs h.sq
    rw [e3] at this; cases this
    refine ⟨Post.newV hn, R.newV hn, .tup ⟨(R.fresh hn).2, (R.fresh hn).1, upd_same⟩ (.cons ?_ (.cons (rv.mono (Post.newV (L := L) hn)) .nil))⟩
    rw [Nat.zero_add]; exact .int _
theorem walk_zip {a b : Addr} {vs ws : List V} {l m : List D} : WalkOk G L (ItzT G.K a b) (zipL l m) (fun B ρ H => (TupAt B ρ H a vs ∧ RVs G.K B ρ H l vs) ∧ TupAt B ρ H b ws ∧ RVs G.K B ρ H m ws) where
  mono := fun B ρ ρ' H H' p ⟨h, h'⟩ => ⟨(walk_tup (G := G) (L := L)).mono B ρ ρ' H H' p h, (walk_tup (G := G) (L := L)).mono B ρ ρ' H H' p h'⟩
  addB := fun B ρ H p o hn ⟨h, h'⟩ => ⟨(walk_tup (G := G) (L := L)).addB B ρ H p o hn h, (walk_tup (G := G) (L := L)).addB B ρ H p o hn h'⟩
  av := fun B ρ H p o hp ⟨h, h'⟩ => ⟨(walk_tup (G := G) (L := L)).av B ρ H p o hp h, (walk_tup (G := G) (L := L)).av B ρ H p o hp h'⟩
  stop := fun B ρ H ⟨⟨h, r⟩, ⟨h', r'⟩⟩ => ⟨vs, ws, h.sq, h'.sq, by rw [zipL_len, ← r.length, ← r'.length]; omega⟩
  go := fun B ρ H i ⟨⟨h, r⟩, ⟨h', r'⟩⟩ hi => by
    rw [zipL_len] at hi
    obtain ⟨v, e, _⟩ := r.get (List.getElem?_eq_getElem (show i < l.length by omega))
    obtain ⟨v', e', _⟩ := r'.get (List.getElem?_eq_getElem (show i < m.length by omega))
    exact ⟨vs, ws, v, v', h.sq, h'.sq, e, e'⟩
  yld := fun B ρ S H H' i d x ⟨⟨h, r⟩, ⟨h', r'⟩⟩ R hd ⟨T, v, v', e1, hn, e2, y, y'⟩ => by
    subst e1 e2
    obtain ⟨e, f, he, hf, rfl⟩ := zipL_get hd
    obtain ⟨w1, e3, rv⟩ := r.get he
    obtain ⟨w2, e4, rv'⟩ := r'.get hf
    have z1 := y vs h.sq
    have z2 := y' ws h'.sq
    rw [e3] at z1; cases z1
    rw [e4] at z2; cases z2
    exact ⟨Post.newV hn, R.newV hn, .tup ⟨(R.fresh hn).2, (R.fresh hn).1, upd_same⟩ (.cons (rv.mono (Post.newV (L := L) hn)) (.cons (rv'.mono (Post.newV (L := L) hn)) .nil))⟩
end

section
variable {G : Pg} {W : WX} {xm : XM} {f fa fb : FE} {fs : FA}
theorem tE_bindL {α β : Type} {rel : List Addr → List Addr → List Addr → Hp → α → β → Prop} {B L ρ S env σ H} {k : D → Sto → Out α} {Q : β → Hp → Prop} (A : At G B L ρ S env σ H) (g : GO G W xm B L ρ H σ (rel B L) ((f env S).bind k) Q) :
    tE G W xm f σ H fun x H1 => ∃ B L ρ S d, At G B L ρ S env σ H1 ∧ RV G.K B ρ H1 d x ∧ GO G W xm B L ρ H1 σ (rel B L) (k d S) Q := by
  refine ⟨B, L, ρ, S, env, A, ?_⟩
  revert g
  cases f env S with
  | ok d S' => exact fun g v ρ' H' p R r => ⟨B, L, ρ', S', d, A.step p R, r, GO.step g p⟩
  | exc c S' => exact fun g => g
  | bad => exact fun g => g
theorem tA_bindL {α β : Type} {rel : List Addr → List Addr → List Addr → Hp → α → β → Prop} {B L ρ S env σ H} {k : List D → Sto → Out α} {Q : β → Hp → Prop} (A : At G B L ρ S env σ H) (g : GO G W xm B L ρ H σ (rel B L) ((fs env S).bind k) Q) :
    tA G W xm fs σ H fun x H1 => ∃ B L ρ S d, At G B L ρ S env σ H1 ∧ RVs G.K B ρ H1 d x ∧ GO G W xm B L ρ H1 σ (rel B L) (k d S) Q := by
  refine ⟨B, L, ρ, S, env, A, ?_⟩
  revert g
  cases fs env S with
  | ok d S' => exact fun g v ρ' H' p R r => ⟨B, L, ρ', S', d, A.step p R, r, GO.step g p⟩
  | exc c S' => exact fun g => g
  | bad => exact fun g => g
end
section
variable {X : Cx} {w : Wx} {tg e e2 : Expr} {fe fe2 : FE} {fs : FA} {p pos tpos : Pos} {elts : List Expr} {kk : Nat}
theorem si_seq (he : SE X w e fe) : SI X w tg e (iSq fe) := PI.imp (pi_seq he) fun σ H R ⟨B, L, ρ, S, env, A, g⟩ =>
  tE_mono (tE_bindL (rel := rJ (pg X)) A g) fun x H1 ⟨B, L, ρ, S, d, A, r, g⟩ => by
    cases r with
    | tup h r => exact ⟨_, rfl, .inr ⟨⟨_, h.sq⟩, GO.ok0 g A ⟨_, walk_tup, h, r⟩⟩⟩
    | lst h1 h2 h3 r => exact ⟨_, rfl, .inl ⟨⟨_, .inl (.inl h3)⟩, GO.ok0 g A ⟨_, walk_scr, .inl ⟨h1, h2, .inl h3⟩, r⟩⟩⟩
    | scr h r => exact ⟨_, rfl, .inl ⟨⟨_, h.sq⟩, GO.ok0 g A ⟨_, walk_scr, h, r⟩⟩⟩
    | _ => exact g.elim
def oneA (fe : FE) : FA := fCons fe fNil
theorem smallI_ok {i : Int} (h : smallI i = true) : -(2 ^ 62) ≤ i ∧ i < 2 ^ 62 := by
  unfold smallI at h
  rw [Bool.and_eq_true] at h
  have h1 := of_decide_eq_true h.1
  have h2 := of_decide_eq_true h.2
  omega
def iOf (k : List D → Option (List D)) (fs : FA) : FA := fun env S => (fs env S).bind fun xs S1 => match k xs with
  | some l => .ok l S1
  | none => .bad
def kRng1 : List D → Option (List D)
  | [.int j] => bif smallI j then some (rngL 0 j.toNat) else none
  | _ => none
def kRng2 : List D → Option (List D)
  | [.int i, .int j] => bif smallI i && smallI j then some (rngL i (j - i).toNat) else none
  | _ => none
def kEnum : List D → Option (List D)
  | [.tup l] => some (enumL 0 l)
  | _ => none
def kZip : List D → Option (List D)
  | [.tup l, .tup m] => some (zipL l m)
  | _ => none
theorem go_iOf {k : List D → Option (List D)} {σ : L2.St} {H : Hp} {R : It → Hp → Prop} (h : tI (pg X) w.W w.xm (iOf k fs) σ H R) :
    tA (pg X) w.W w.xm fs σ H fun x H1 => ∃ B L ρ S d l, RVs X.K B ρ H1 d x ∧ k d = some l ∧ RH (pg X) B L ρ H1 S ∧ ∀ J, rJ (pg X) B L ρ H1 l J → R J H1 := by
  obtain ⟨B, L, ρ, S, env, A, g⟩ := h
  refine tA_mono (tA_bindL (rel := rJ (pg X)) A g) fun x H1 ⟨B, L, ρ, S, d, A, r, g⟩ => ?_
  cases e : k d with
  | none => rw [e] at g; exact g.elim
  | some l => rw [e] at g; exact ⟨B, L, ρ, S, d, l, r, e, A.rh, fun J hJ => g J ρ H1 Post.refl A.rh hJ⟩
theorem si_range1 (ha : SA X w [e] fs) (hg : Gl X "range") (hm : X.mg "range" = none) (hs : starEach [e] X.env = [(false, eval e X.env)] := by rfl) : SI X w tg (.Call (.Name "range" p) [e] [] pos) (iOf kRng1 fs) :=
  PI.imp (pi_range1 hg hm ha hs) fun σ H R h => tA_mono (go_iOf h) fun x H1 ⟨B, L, ρ, S, d, l, r, hk, hR, q⟩ => by
    match d, r, hk with
    | [.int j], .cons (.int _) .nil, hk =>
      unfold kRng1 at hk
      simp only at hk
      cases hs : smallI j with
      | false => rw [hs] at hk; cases hk
      | true =>
        rw [hs] at hk; cases hk
        obtain ⟨h1, h2⟩ := smallI_ok hs
        exact ⟨j, rfl, h1, h2, q _ ⟨_, walk_rng, trivial⟩⟩
theorem si_range2 {b : Expr} (ha : SA X w [e, b] fs) (hg : Gl X "range") (hm : X.mg "range" = none) (hs : starEach [e, b] X.env = [(false, eval e X.env), (false, eval b X.env)] := by rfl) (hs2 : starEach [b] X.env = [(false, eval b X.env)] := by rfl) : SI X w tg (.Call (.Name "range" p) [e, b] [] pos) (iOf kRng2 fs) :=
  PI.imp (pi_range2 hg hm ha hs hs2) fun σ H R h => tA_mono (go_iOf h) fun x H1 ⟨B, L, ρ, S, d, l, r, hk, hR, q⟩ => by
    match d, r, hk with
    | [.int i, .int j], .cons (.int _) (.cons (.int _) .nil), hk =>
      unfold kRng2 at hk
      simp only at hk
      cases hs : smallI i && smallI j with
      | false => rw [hs] at hk; cases hk
      | true =>
        rw [hs] at hk; cases hk
        rw [Bool.and_eq_true] at hs
        obtain ⟨h1, h2⟩ := smallI_ok hs.1
        obtain ⟨h3, h4⟩ := smallI_ok hs.2
        exact ⟨i, j, rfl, ⟨h1, h2, h3, h4⟩, q _ ⟨_, walk_rng, trivial⟩⟩
theorem si_enum (ha : SA X w [e] fs) (hg : Gl X "enumerate") (hm : X.mg "enumerate" = none) (hs : starEach [e] X.env = [(false, eval e X.env)] := by rfl) : SI X w (.Tuple elts kk tpos) (.Call (.Name "enumerate" p) [e] [] pos) (iOf kEnum fs) :=
  PI.imp (pi_enumT hg hm ha hs) fun σ H R h => tA_mono (go_iOf h) fun x H1 ⟨B, L, ρ, S, d, l, r, hk, hR, q⟩ => by
    match d, r, hk with
    | [.tup l], .cons (.tup h r) .nil, hk => cases hk; exact ⟨_, _, rfl, h.sq, q _ ⟨_, walk_enum, h, r⟩⟩
theorem si_zip (ha : SA X w [e, e2] fs) (hg : Gl X "zip") (hm : X.mg "zip" = none) (hs : starEach [e, e2] X.env = (false, eval e X.env) :: starEach [e2] X.env := by rfl) (hpl : (backTo pos (starEach [e2] X.env)).any (·.1) = false := by rfl) :
    SI X w (.Tuple elts kk tpos) (.Call (.Name "zip" p) [e, e2] [] pos) (iOf kZip fs) :=
  PI.imp (pi_zipA hg hm ha hs hpl) fun σ H R h => tA_mono (go_iOf h) fun x H1 ⟨B, L, ρ, S, d, l, r, hk, hR, q⟩ => by
    match d, r, hk with
    | [.tup l, .tup m], .cons (.tup h r) (.cons (.tup h' r') .nil), hk => cases hk; exact ⟨_, _, _, _, rfl, .inr ⟨h.sq, h'.sq, q _ ⟨_, walk_zip, ⟨h, r⟩, h', r'⟩⟩⟩
end

/-! ### for -/
def forL (g : D → En → Option En) (b : FS) : List D → FS
  | [] => fun env S => .nx env S
  | d :: r => fun env S => match g d env with
    | none => .bad
    | some env1 => match b env1 S with
      | .nx env' S' => forL g b r env' S'
      | .ct env' S' => forL g b r env' S'
      | .bk env' S' => .nx env' S'
      | r => r
def sFor (f : FA) (g : D → En → Option En) (b : FS) : FS := fun env S => (f env S).bindS fun l S1 => forL g b l env S1
section
variable {X : Cx} {w : Wx} {tg iter : Expr} {body : List Stmt} {fi : FA} {g : D → En → Option En} {t : TG} {is : List Nat} {f : FS} {pos : Pos}
theorem ss_for (hp : PassesOwn (model X.prog X.w) X.A X.env X.xe) (hc : X.calm = true) (hi : SI X w tg iter fi) (hg : SG X tg t g is) (hb : SSs X w body f) (hs : ∀ x, foldedSetIterable iter X.env x = pure x := by intro _; rfl) :
    SS X w (.For tg iter body [] pos) (sFor fi g f) := PS.imp (ps_for hp hc hi hg.pg hb hs) fun D σ H ⟨B, L, ρ, S, env, A, gg⟩ => by
  refine ⟨B, L, ρ, S, env, A, ?_⟩
  revert gg
  unfold sFor
  cases fi env S with
  | exc c S' => exact fun g => g σ
  | bad => exact fun g => g
  | ok l S' =>
    rintro gg J ρ1 H1 p R ⟨I, wk, i0⟩
    have g1 : GS (pg X) w.W w.xm B L ρ1 H1 (forL g f l env S') D := GS.step gg p
    refine ⟨fun i m σ H => ∃ ρ S env, At (pg X) B L ρ S env σ H ∧ I B ρ H ∧ i ≤ l.length ∧ m = l.length - i ∧ GS (pg X) w.W w.xm B L ρ H (forL g f (l.drop i) env S) D, ⟨l.length, ρ1, S', env, A.step p R, i0, Nat.zero_le _, rfl, g1⟩, ?_⟩
    rintro i m σ2 H2 ⟨ρ2, S2, env2, A2, i2, hle, rfl, g2⟩
    by_cases hlt : i < l.length
    · refine .inr ⟨wk.go B ρ2 H2 i i2 hlt, fun σ H => ∃ ρ S env, At (pg X) B L ρ S env σ H ∧ I B ρ H ∧ GS (pg X) w.W w.xm B L ρ H (forL g f (l.drop (i + 1)) env S) D, fun σ' H' ⟨ρ, S, env, A, i', g'⟩ => ⟨l.length - (i + 1), by omega, ρ, S, env, A, i', hlt, rfl, g'⟩, ?_⟩
      intro x H3 y
      obtain ⟨p3, R3, r3⟩ := wk.yld B ρ2 S2 H2 H3 i l[i] x i2 A2.rh (List.getElem?_eq_getElem hlt) y
      rw [List.drop_eq_getElem_cons hlt] at g2
      unfold forL at g2
      cases hu : g l[i] env2 with
      | none => rw [hu] at g2; exact g2.elim
      | some env3 =>
        rw [hu] at g2
        refine hg.ok B L ρ2 H3 l[i] x env2 env3 σ2 _ r3 (A2.re.mono p3) hu fun σ3 re3 _ => ?_
        refine ⟨B, L, ρ2, S2, env3, ⟨R3, re3⟩, ?_⟩
        have g3 := GS.step g2 p3
        have i3 := wk.mono B ρ2 ρ2 H2 H3 p3 i2
        revert g3
        simp only
        cases f env3 S2 with
        | nx env' S' => exact fun g σ' ρ' H' p R re => ⟨ρ', S', env', ⟨R, re⟩, wk.mono B ρ2 ρ' H3 H' p i3, GS.step g p⟩
        | ct env' S' => exact fun g σ' ρ' H' p R re => ⟨ρ', S', env', ⟨R, re⟩, wk.mono B ρ2 ρ' H3 H' p i3, GS.step g p⟩
        | bk e S' => exact fun g => g
        | rt e S' => exact fun g => g
        | xc c S' => exact fun g => g
        | bad => exact fun g => g
    · have hi : i = l.length := by omega
      subst hi
      rw [List.drop_length] at g2
      exact .inl ⟨wk.stop B ρ2 H2 i2, GS.nx0 g2 A2.rh A2.re⟩
end

/-! ### comprehensions -/
def compL (g : D → En → Option En) (t : FT) (e : FE) (env : En) : List D → Sto → Out (List D)
  | [], S => .ok [] S
  | d :: r, S => match g d env with
    | none => .bad
    | some env1 => match t env1 S with
      | .ok true S1 => match e env1 S1 with
        | .ok x S2 => match compL g t e env r S2 with
          | .ok xs S3 => .ok (x :: xs) S3
          | _ => .bad
        | _ => .bad
      | .ok false S1 => compL g t e env r S1
      | _ => .bad
def tYesF : FT := fun _ S => .ok true S
/-- the list that stands at last: a value, or an object of the store -/
def fComp (m : Bool) (f : FA) (g : D → En → Option En) (t : FT) (e : FE) (vs : List Nat) : FE := fun env S => (f env S).bind fun l S1 => bif fit l.length then
  (match compL g t e (undE env vs) l S1 with
  | .ok xs S2 => bif m then .ok (.loc S2.length) (S2 ++ [.lst xs]) else .ok (.lst xs) S2
  | _ => .bad) else .bad
theorem RO.re {G : Pg} {B1 ρ1 B2 ρ2 L : List Addr} {H : Hp} (hB : ∀ a, a ∈ B2 ∨ a ∈ ρ2 → a ∈ B1 ∨ a ∈ ρ1) (hp : ∀ (n : Nat) (a : Addr), ρ1[n]? = some a → ρ2[n]? = some a) {a : Addr} {o : Ob} (h : RO G B1 L ρ1 H a o) : RO G B2 L ρ2 H a o := by
  cases o with
  | lst ds => obtain ⟨vs, e, r⟩ := h; exact ⟨vs, e, r.re hB hp⟩
  | dct lk kvs =>
    obtain ⟨ents, e, r⟩ := h
    refine ⟨ents, e, ?_⟩
    clear e; induction r with
    | nil => exact .nil
    | cons h1 h2 h3 h4 _ ih => exact .cons h1 (h2.re hB hp) h3 (h4.re hB hp) ih
  | dki lk kvs =>
    obtain ⟨ents, e, r⟩ := h
    refine ⟨ents, e, ?_⟩
    clear e; induction r with
    | nil => exact .nil
    | cons h4 _ ih => exact .cons (h4.re hB hp) ih
  | ins fs =>
    obtain ⟨C, d, ents, hb, e, r⟩ := h
    refine ⟨C, d, ents, hb, e, ?_⟩
    clear e; induction r with
    | nil => exact .nil
    | cons h4 _ ih => exact .cons (h4.re hB hp) ih
/-- an address that is avoided is written: the object stays -/
theorem RO.av {G : Pg} {B ρ L : List Addr} {H : Hp} {p : Addr} {u : HO} (hp : p ∈ B) {a : Addr} {o : Ob} (hne : a ≠ p) (h : RO G B L ρ H a o) : RO G B L ρ (upd H p u) a o := by
  cases o with
  | lst ds => obtain ⟨vs, e, r⟩ := h; exact ⟨vs, by rw [upd_ne hne]; exact e, r.av hp⟩
  | dct lk kvs =>
    obtain ⟨ents, e, r⟩ := h
    refine ⟨ents, by unfold LkAt at e ⊢; rw [upd_ne hne]; exact e, ?_⟩
    clear e; induction r with
    | nil => exact .nil
    | cons h1 h2 h3 h4 _ ih => exact .cons h1 (h2.av hp) h3 (h4.av hp) ih
  | dki lk kvs =>
    obtain ⟨ents, e, r⟩ := h
    refine ⟨ents, by unfold LkAt at e ⊢; rw [upd_ne hne]; exact e, ?_⟩
    clear e; induction r with
    | nil => exact .nil
    | cons h4 _ ih => exact .cons (h4.av hp) ih
  | ins fs =>
    obtain ⟨C, d, ents, hb, e, r⟩ := h
    refine ⟨C, d, ents, hb, by rw [upd_ne hne]; exact e, ?_⟩
    clear e; induction r with
    | nil => exact .nil
    | cons h4 _ ih => exact .cons (h4.av hp) ih
theorem RH.av {G : Pg} {B ρ L : List Addr} {H : Hp} {S : Sto} {p : Addr} {u : HO} (R : RH G B L ρ H S) (hp : p ∈ B) (hl : p ∉ L) : RH G B L ρ (upd H p u) S where
  len := R.len
  nd := R.nd
  dj := R.dj
  avo := fun b hb => by
    by_cases e : b = p
    · subst e; exact ⟨_, upd_same⟩
    · obtain ⟨u, q⟩ := R.avo b hb; exact ⟨u, by rw [upd_ne e]; exact q⟩
  lk := fun b hb => by
    obtain ⟨o, u, q⟩ := R.lk b hb
    exact ⟨o, u, by rw [upd_ne (by rintro rfl; exact hl hb)]; exact q⟩
  ob := fun n a o h1 h2 => (R.ob n a o h1 h2).av hp (by rintro rfl; exact R.dj _ (List.mem_of_getElem? h1) hp)
theorem RH.reB {G : Pg} {B B' ρ L : List Addr} {H : Hp} {S : Sto} (R : RH G B L ρ H S) (h : ∀ a, a ∈ B' → a ∈ B) : RH G B' L ρ H S where
  len := R.len
  nd := R.nd
  dj := fun a ha z => R.dj a ha (h a z)
  avo := fun b hb => R.avo b (h b hb)
  lk := R.lk
  ob := fun n a o h1 h2 => (R.ob n a o h1 h2).re (fun a z => z.imp (h a) id) fun _ _ z => z
/-- a list that was avoided comes into the store -/
theorem RH.addL {G : Pg} {B ρ L : List Addr} {H : Hp} {S : Sto} {p : Addr} {xs : List D} {vs : List V} (R : RH G (p :: B) L ρ H S) (hb : p ∉ B) (e : H p = some (.lst vs)) (r : RVs G.K (p :: B) ρ H xs vs) : RH G B L (ρ ++ [p]) H (S ++ [.lst xs]) := by
  have hB : ∀ a, a ∈ B ∨ a ∈ ρ ++ [p] → a ∈ p :: B ∨ a ∈ ρ := fun a z => z.elim (fun z => .inl (List.mem_cons_of_mem _ z)) fun z => (List.mem_append.mp z).elim .inr fun z => .inl (by simp at z; rw [z]; exact List.mem_cons_self)
  have hp : ∀ (n : Nat) (a : Addr), ρ[n]? = some a → (ρ ++ [p])[n]? = some a := fun n a z => by rw [List.getElem?_append_left (List.getElem?_eq_some_iff.mp z).1]; exact z
  refine ⟨by simp [R.len], ?_, fun a ha => (List.mem_append.mp ha).elim (fun z q => R.dj a z (List.mem_cons_of_mem _ q)) fun z => by simp at z; rw [z]; exact hb, fun b hb => R.avo b (List.mem_cons_of_mem _ hb), R.lk, fun n a o h1 h2 => ?_⟩
  · rw [List.nodup_append]
    refine ⟨R.nd, by simp, fun a ha b hb => ?_⟩
    simp at hb; subst hb
    rintro rfl
    exact R.dj _ ha List.mem_cons_self
  · by_cases hn : n < ρ.length
    · rw [List.getElem?_append_left hn] at h1
      rw [List.getElem?_append_left (by rw [← R.len]; exact hn)] at h2
      exact (R.ob n a o h1 h2).re hB hp
    · have hn' : n = ρ.length := by
        have := (List.getElem?_eq_some_iff.mp h1).1
        simp at this; omega
      subst hn'
      rw [List.getElem?_append_right (Nat.le_refl _)] at h1
      rw [R.len, List.getElem?_append_right (Nat.le_refl _)] at h2
      simp at h1 h2
      subst h1; subst h2
      exact ⟨vs, e, r.re hB hp⟩
theorem RH.addB {G : Pg} {B ρ L : List Addr} {H : Hp} {S : Sto} {p : Addr} {u : HO} (R : RH G B L ρ H S) (hn : H p = none) : RH G (p :: B) L ρ (upd H p u) S := by
  have q := R.newV (o := u) hn
  refine ⟨q.len, q.nd, fun a ha z => (List.mem_cons.mp z).elim (fun z => (R.fresh hn).1 (z ▸ ha)) (q.dj a ha), fun b hb => (List.mem_cons.mp hb).elim (fun z => ⟨u, by subst z; exact upd_same⟩) (q.avo b), q.lk, fun n a o h1 h2 => ?_⟩
  have q1 := R.ob n a o h1 h2
  obtain ⟨u, hu⟩ := R.there h1
  have hne : a ≠ p := ne_of_none hu hn
  cases o with
  | lst ds => obtain ⟨vs, e, r⟩ := q1; exact ⟨vs, by rw [upd_ne hne]; exact e, r.addB hn⟩
  | dct lk kvs =>
    obtain ⟨ents, e, r⟩ := q1
    refine ⟨ents, by unfold LkAt at e ⊢; rw [upd_ne hne]; exact e, ?_⟩
    clear e h2; induction r with
    | nil => exact .nil
    | cons h1 h2 h3 h4 _ ih => exact .cons h1 (h2.addB hn) h3 (h4.addB hn) ih
  | dki lk kvs =>
    obtain ⟨ents, e, r⟩ := q1
    refine ⟨ents, by unfold LkAt at e ⊢; rw [upd_ne hne]; exact e, ?_⟩
    clear e h2; induction r with
    | nil => exact .nil
    | cons h4 _ ih => exact .cons (h4.addB hn) ih
  | ins fs =>
    obtain ⟨C, d, ents, hb, e, r⟩ := q1
    refine ⟨C, d, ents, hb, by rw [upd_ne hne]; exact e, ?_⟩
    clear e h2; induction r with
    | nil => exact .nil
    | cons h4 _ ih => exact .cons (h4.addB hn) ih
theorem RE.av {K : PySem.W.Frag} {B ρ : List Addr} {H : Hp} {env : En} {σ : L2.St} {p : Addr} {o : HO} (h : RE K B ρ H env σ) (hp : p ∈ B) : RE K B ρ (upd H p o) env σ :=
  ⟨h.len, fun i d e => (h.at' i d e).imp id fun ⟨v, e1, r⟩ => ⟨v, e1, r.av hp⟩⟩
theorem RE.addB {K : PySem.W.Frag} {B ρ : List Addr} {H : Hp} {env : En} {σ : L2.St} {p : Addr} {o : HO} (h : RE K B ρ H env σ) (hn : H p = none) : RE K (p :: B) ρ (upd H p o) env σ :=
  ⟨h.len, fun i d e => (h.at' i d e).imp id fun ⟨v, e1, r⟩ => ⟨v, e1, r.addB hn⟩⟩
def W0 : WX := fun _ _ _ _ => False
section
variable {X : Cx} {w : Wx} {tg iter elt : Expr} {ifs : List Expr} {fi : FA} {g : D → En → Option En} {t : TG} {is : List Nat} {ft : FT} {fe : FE} {pos : Pos}
theorem wipe_idem {σ : L2.St} : ∀ vs : List Nat, wipe (wipe σ vs) vs = wipe σ vs := by
  intro vs
  apply List.ext_getElem?
  intro i
  by_cases hi : i ∈ vs
  · have key : ∀ (σ : L2.St) (vs : List Nat), i ∈ vs → i < σ.length → (wipe σ vs)[i]? = some none := by
      intro σ vs
      induction vs with
      | nil => intro h; exact nomatch h
      | cons a vs ih =>
        intro h hl
        unfold L2.wipe
        by_cases ha : a = i
        · subst ha; rw [List.getElem?_set_self (by rw [wipe_length]; exact hl)]
        · rw [List.getElem?_set_ne ha]
          exact ih ((List.mem_cons.mp h).resolve_left (Ne.symm ha)) hl
    by_cases hl : i < σ.length
    · rw [key _ vs hi (by rw [wipe_length]; exact hl), key σ vs hi hl]
    · rw [List.getElem?_eq_none (by rw [wipe_length, wipe_length]; omega), List.getElem?_eq_none (by rw [wipe_length]; omega)]
  · rw [wipe_out hi, wipe_out hi]
abbrev SPT (X : Cx) (w : Wx) (ifs : List Expr) (f : FT) : Prop := PTs X ifs (tT (pg X) w.W w.xm f)
theorem spt_nil : SPT X w [] tYesF := ⟨fun pins s σ H Q I ⟨B, L, ρ, S, env, A, g⟩ => pts_nil.run pins s σ H Q I (g true ρ H Post.refl A.rh rfl)⟩
theorem spt_one {c : Expr} (h : ST X w c ft) : SPT X w [c] ft := pts_one h
/-- the reading of a comprehension -/
theorem comp_ok {m : Bool} {vs : List Nat} (hg : TgOk X.K t g is) (hv : ∀ i ∈ is, i ∈ vs) {σ : L2.St} {H : Hp} {Q : VK} (h : tE (pg X) w.W w.xm (fComp m fi g ft fe vs) σ H Q) :
    tLc (tI (pg X) w.W w.xm fi) t (tT (pg X) W0 w.xm ft) (tE (pg X) W0 w.xm fe) vs σ H Q := by
  obtain ⟨B, L, ρ, S, env, A, gg⟩ := h
  refine ⟨B, L, ρ, S, env, A, ?_⟩
  revert gg
  unfold fComp
  cases fi env S with
  | exc c S' => exact fun g => g
  | bad => exact fun g => g
  | ok l S' =>
    rintro gg J ρ1 H1 p R ⟨I, wk, i0⟩ D hD
    have g1 := GO.step gg p
    revert g1
    show GO (pg X) w.W w.xm B L ρ1 H1 σ (rD (pg X) B) (bif fit l.length then
      (match compL g ft fe (undE env vs) l S' with
      | .ok xs S2 => bif m then Out.ok (.loc S2.length) (S2 ++ [.lst xs]) else .ok (.lst xs) S2
      | _ => .bad) else .bad) Q → _
    cases hfit : fit l.length with
    | false => exact fun g => g.elim
    | true =>
    intro g1
    have A1 := A.step p R
    cases hc : compL g ft fe (undE env vs) l S' with
    | exc c S2 => rw [hc] at g1; exact g1.elim
    | bad => rw [hc] at g1; exact g1.elim
    | ok xs S2 =>
    have g2 : GO (pg X) w.W w.xm B L ρ1 H1 σ (rD (pg X) B) (bif m then Out.ok (.loc S2.length) (S2 ++ [.lst xs]) else .ok (.lst xs) S2) Q := by
      rw [hc] at g1; exact g1
    have hDB : D ∉ B := (R.fresh hD).2
    have hDL : D ∉ L := fun z => by obtain ⟨o, u, q⟩ := R.lk D z; rw [hD] at q; cases q
    refine ⟨fun i m H => ∃ ρ S acc accD ys, RH (pg X) (D :: B) L ρ H S ∧ RE X.K (D :: B) ρ H (undE env vs) (wipe σ vs) ∧ I (D :: B) ρ H ∧ H D = some (.lst acc) ∧ RVs X.K (D :: B) ρ H accD acc ∧ accD.length ≤ i ∧ i ≤ l.length ∧ m = l.length - i ∧
      Post L ρ1 H1 ρ H ∧ compL g ft fe (undE env vs) (l.drop i) S = .ok ys S2 ∧ accD ++ ys = xs,
      ⟨l.length, ρ1, S', [], [], xs, R.addB hD, (A1.re.wipe vs).addB hD, wk.addB _ _ _ _ _ hD i0, upd_same, .nil, Nat.zero_le _, Nat.zero_le _, rfl, Post.newV hD, hc, rfl⟩, ?_⟩
    rintro i k H ⟨ρ, S, acc, accD, ys, RH1, re1, i1, hDa, ra, hai, hil, rfl, ps, hcl, hxs⟩
    by_cases hlt : i < l.length
    · refine .inr ⟨wk.go _ ρ H i i1 hlt, fun H => ∃ ρ S acc accD ys, RH (pg X) (D :: B) L ρ H S ∧ RE X.K (D :: B) ρ H (undE env vs) (wipe σ vs) ∧ I (D :: B) ρ H ∧ H D = some (.lst acc) ∧ RVs X.K (D :: B) ρ H accD acc ∧ accD.length ≤ i + 1 ∧
          Post L ρ1 H1 ρ H ∧ compL g ft fe (undE env vs) (l.drop (i + 1)) S = .ok ys S2 ∧ accD ++ ys = xs,
        fun H' ⟨ρ, S, acc, accD, ys, h1, h2, h3, h4, h5, h6, h7, h8, h9⟩ => ⟨l.length - (i + 1), by omega, ρ, S, acc, accD, ys, h1, h2, h3, h4, h5, h6, hlt, rfl, h7, h8, h9⟩, ?_⟩
      intro x H3 y
      obtain ⟨p3, R3, r3⟩ := wk.yld _ ρ S H H3 i l[i] x i1 RH1 (List.getElem?_eq_getElem hlt) y
      rw [List.drop_eq_getElem_cons hlt] at hcl
      unfold compL at hcl
      cases hu : g l[i] (undE env vs) with
      | none => rw [hu] at hcl; cases hcl
      | some env1 =>
        rw [hu] at hcl
        simp only at hcl
        refine hg (D :: B) L ρ H3 l[i] x (undE env vs) env1 (wipe σ vs) _ r3 (re1.mono p3) hu fun σ3 re3 hw => ⟨(hw vs hv).trans (wipe_idem vs), ?_⟩
        cases ht : ft env1 S with
        | exc c S3 => rw [ht] at hcl; cases hcl
        | bad => rw [ht] at hcl; cases hcl
        | ok b S3 =>
          rw [ht] at hcl
          refine ⟨D :: B, L, ρ, S, env1, ⟨R3, re3⟩, ?_⟩
          rw [ht]
          intro b' ρ4 H4 p4 R4 hb
          have hb : b = b' := hb
          subst hb
          have hDρ : D ∉ ρ := fun z => RH1.dj D z List.mem_cons_self
          have e4 : H4 D = some (.lst acc) := p4.ext D _ (.inl hDρ) (p3.ext D _ (.inl hDρ) hDa)
          cases b with
          | false =>
            refine iteF ?_
            simp only at hcl
            exact ⟨ρ4, S3, acc, accD, ys, R4, (re1.mono p3).mono p4, wk.mono _ _ _ _ _ p4 (wk.mono _ _ _ _ _ p3 i1), e4, RVs.mono p4 _ _ (RVs.mono p3 _ _ ra), Nat.le_succ_of_le hai, ps.trans (p3.trans p4), hcl, hxs⟩
          | true =>
            refine iteT ?_
            simp only at hcl
            cases he : fe env1 S3 with
            | exc c S5 => rw [he] at hcl; cases hcl
            | bad => rw [he] at hcl; cases hcl
            | ok z S5 =>
              rw [he] at hcl
              simp only at hcl
              cases hcr : compL g ft fe (undE env vs) (l.drop (i + 1)) S5 with
              | exc c S6 => rw [hcr] at hcl; cases hcl
              | bad => rw [hcr] at hcl; cases hcl
              | ok zs S6 =>
                rw [hcr] at hcl
                cases hcl
                refine ⟨D :: B, L, ρ4, S3, env1, ⟨R4, re3.mono p4⟩, ?_⟩
                rw [he]
                intro y5 ρ5 H5 p5 R5 r5
                have hD4 : D ∉ ρ4 := fun z => R4.dj D z List.mem_cons_self
                have e5 : H5 D = some (.lst acc) := p5.ext D _ (.inl hD4) e4
                have ps5 : Post L ρ1 H1 ρ5 H5 := ps.trans (p3.trans (p4.trans p5))
                refine ⟨acc, e5, ?_, ρ5, S5, acc ++ [y5], accD ++ [z], zs, R5.av List.mem_cons_self hDL, (((re1.mono p3).mono p4).mono p5).av List.mem_cons_self, wk.av _ _ _ _ _ List.mem_cons_self (wk.mono _ _ _ _ _ p5 (wk.mono _ _ _ _ _ p4 (wk.mono _ _ _ _ _ p3 i1))), upd_same,
                  ((RVs.mono p5 _ _ (RVs.mono p4 _ _ (RVs.mono p3 _ _ ra))).append (.cons r5 .nil)).av List.mem_cons_self, by simp; omega, ⟨fun a u ha hu => ?_, ps5.pre, ps5.new⟩, hcr, by rw [← hxs]; simp⟩
                · rw [← ra.length]
                  have := fit_le hfit
                  omega
                · rw [upd_ne (ne_of_none hu hD)]
                  exact ps5.ext a u ha hu
    · have hi : i = l.length := by omega
      subst hi
      refine .inl ⟨wk.stop _ ρ H i1, ?_⟩
      rw [List.drop_length] at hcl
      cases hcl
      rw [List.append_nil] at hxs
      subst hxs
      have hDρ : D ∉ ρ := fun z => RH1.dj D z List.mem_cons_self
      cases m with
      | false => exact g2 (.ref D) ρ H ps (RH1.reB fun a z => List.mem_cons_of_mem _ z) (.lst hDB hDρ hDa (ra.re (fun a z => z.imp (List.mem_cons_of_mem _) id) fun _ _ z => z))
      | true =>
        refine g2 (.ref D) (ρ ++ [D]) H ⟨ps.ext, ?_, fun a z => (List.mem_append.mp z).elim (ps.new a) fun z => ?_⟩ (RH1.addL hDB hDa ra) (.loc ?_)
        · obtain ⟨tt, e⟩ := ps.pre; exact ⟨tt ++ [D], by rw [e, List.append_assoc]⟩
        · simp at z; rw [z]; exact .inr hD
        · rw [← RH1.len, List.getElem?_append_right (Nat.le_refl _)]; simp
end
end Sf
end

section
set_option Elab.async false
set_option maxRecDepth 100000
set_option linter.all false
/-! Sf7: comprehensions as values, functions, calls. -/
namespace Sf
open PySem PySem.Spec PyProof.Rows L2 RZ

/-- within a comprehension's block no exception leaves -/
abbrev wB (w : Wx) : Wx := ⟨W0, w.xm⟩
section
variable {X : Cx} {w : Wx} {tg iter elt : Expr} {ifs : List Expr} {fi : FA} {g : D → En → Option En} {t : TG} {is : List Nat} {ft : FT} {fe : FE} {pos : Pos} {scope : Scope} {own : List (Str × Nat)}
theorem se_lc {m : Bool} (hc : X.calm = true) (hN : X.N.Nodup) (ok : BlkOk X.N X.env.scope scope own) (hv : ∀ i ∈ is, i ∈ own.map (·.2)) (hi : SI X w tg iter fi)
    (hg : ∀ (s : Shared) (H : Hp) (C : Addr) (cl : List (Str × Addr)) (fp : List Addr), PG (X.blk s H scope (compEnvC scope cl C X.env) fp) tg t) (hk : TgOk X.K t g is)
    (ht : ∀ (s : Shared) (H : Hp) (C : Addr) (cl : List (Str × Addr)) (fp : List Addr), SPT (X.blk s H scope (compEnvC scope cl C X.env) fp) (wB w) ifs ft)
    (he : ∀ (s : Shared) (H : Hp) (C : Addr) (cl : List (Str × Addr)) (fp : List Addr), SE (X.blk s H scope (compEnvC scope cl C X.env) fp) (wB w) elt fe) (hs : ∀ x, foldedSetIterable iter X.env x = pure x := by intro _; rfl) :
    SE X w (.ListComp elt [⟨tg, iter, ifs, 0⟩] scope pos) (fComp m fi g ft fe (own.map (·.2))) :=
  PE.imp (pe_lc hc hN hi ok hg ht he hs) fun σ H Q h =>
    comp_ok (X := X) (w := w) (is := is) hk hv h
theorem ss_setLc {m : Bool} {i : Nat} {y : Str} {py spos : Pos} (hc : X.calm = true) (hN : X.N.Nodup) (hy : X.N[i]? = some y) (hyl : X.env.scope.names.lookup y = some .local) (hsw : swapsWith (.ListComp elt [⟨tg, iter, ifs, 0⟩] scope pos) (some (.Name y py)) spos.line X.env = pure true)
    (ok : BlkOk X.N X.env.scope scope own) (hv : ∀ i ∈ is, i ∈ own.map (·.2)) (hi : SI X w tg iter fi)
    (hg : ∀ (s : Shared) (H : Hp) (C : Addr) (cl : List (Str × Addr)) (fp : List Addr), PG (X.blk s H scope (compEnvC scope cl C X.env) fp) tg t) (hk : TgOk X.K t g is)
    (ht : ∀ (s : Shared) (H : Hp) (C : Addr) (cl : List (Str × Addr)) (fp : List Addr), SPT (X.blk s H scope (compEnvC scope cl C X.env) fp) (wB w) ifs ft)
    (he : ∀ (s : Shared) (H : Hp) (C : Addr) (cl : List (Str × Addr)) (fp : List Addr), SE (X.blk s H scope (compEnvC scope cl C X.env) fp) (wB w) elt fe) (hs : ∀ x, foldedSetIterable iter X.env x = pure x := by intro _; rfl) :
    SS X w (.Assign [.Name y py] (.ListComp elt [⟨tg, iter, ifs, 0⟩] scope pos) spos) (sAsg i (fComp m fi g ft fe (own.map (·.2)))) :=
  ss_set' (ps_setLc hc hN hy hyl hsw hi ok hg ht he hs) fun σ H Q h =>
    comp_ok (X := X) (w := w) (is := is) hk hv h
end

/-! ### functions -/
abbrev Fn := List D → Sto → Out D
mutual
/-- all places below n -/
def lowD (n : Nat) : D → Bool
  | .tup l => lowL n l
  | .lst l => lowL n l
  | .scr l => lowL n l
  | .loc k => Nat.blt k n
  | _ => true
def lowL (n : Nat) : List D → Bool
  | [] => true
  | d :: r => lowD n d && lowL n r
end
def lowO (n : Nat) : Ob → Bool
  | .lst l => lowL n l
  | .dct _ kvs => kvs.all fun p => lowD n p.1 && lowD n p.2
  | .dki _ kvs => kvs.all fun p => lowD n p.2
  | .ins fs => fs.all fun p => lowD n p.2
def mapO (f : D → Option D) : List D → Option (List D)
  | [] => some []
  | d :: r => match f d, mapO f r with
    | some x, some xs => some (x :: xs)
    | _, _ => none
/-- the new lists as values -/
def frzD : Nat → Sto → Nat → D → Option D
  | 0, _, _, _ => none
  | k + 1, S, n, d => match d with
    | .tup l => (mapO (frzD k S n) l).map .tup
    | .lst l => (mapO (frzD k S n) l).map .lst
    | .scr l => (mapO (frzD k S n) l).map .scr
    | .loc i => bif Nat.blt i n then some (.loc i) else match S[i]? with
      | some (.lst l) => (mapO (frzD k S n) l).map .lst
      | _ => none
    | d => some d
def endF (n : Nat) (d : D) (S : Sto) : Out D := bif Nat.beq S.length n then .ok d S else match frzD 9 S n d with
  | some d' => bif (S.take n).all (lowO n) then .ok d' (S.take n) else .bad
  | none => .bad
/-- one new object is handed out -/
def endM (n : Nat) (d : D) (S : Sto) : Out D := match d with
  | .loc i => bif Nat.ble n i then match S[i]? with
    | some o => bif (S.take n).all (lowO n) && lowO n o then .ok (.loc n) (S.take n ++ [o]) else .bad
    | none => .bad else .bad
  | _ => .bad
def endX (n : Nat) (c : Nat) (S : Sto) : Out D := bif Nat.beq S.length n then .exc c S else bif (S.take n).all (lowO n) then .exc c (S.take n) else .bad
def fnEnd (m : Bool) (n : Nat) : SR → Out D
  | .rt d S => bif m then endM n d S else endF n d S
  | .nx _ S => endF n .non S
  | .xc c S => endX n c S
  | _ => .bad
def fn (m : Bool) (N : Nat) (b : FS) : Fn := fun ds S => fnEnd m S.length (b (ds ++ List.replicate (N - ds.length) .und) S)
section
variable {G : Pg} {B L ρ ρ' : List Addr} {H : Hp} {S : Sto}
theorem RV.low {K : PySem.W.Frag} {n : Nat} (hρ : ∀ a, a ∈ ρ' → a ∈ ρ) (hp : ∀ (i : Nat) (a : Addr), i < n → ρ[i]? = some a → ρ'[i]? = some a) : ∀ {d : D} {v : V}, RV K B ρ H d v → lowD n d = true → RV K B ρ' H d v := by
  intro d v h
  refine RV.rec (motive_1 := fun d v _ => lowD n d = true → RV K B ρ' H d v) (motive_2 := fun ds vs _ => lowL n ds = true → RVs K B ρ' H ds vs) (fun _ => .non) (fun b _ => .bl b) (fun i _ => .int i) (fun x _ => .str x) (fun h _ ih e => ?_) (fun h1 h2 h3 _ ih e => ?_) (fun h _ ih e => ?_) (fun h e => ?_) (fun h _ => .glob h) (fun _ => .nil) (fun _ _ ih1 ih2 e => ?_) h
  · exact .tup ⟨h.1, fun z => h.2.1 (hρ _ z), h.2.2⟩ (ih e)
  · exact .lst h1 (fun z => h2 (hρ _ z)) h3 (ih e)
  · exact .scr (h.imp (fun h => ⟨h.1, fun z => h.2.1 (hρ _ z), h.2.2⟩) id) (ih e)
  · exact .loc (hp _ _ (Nat.le_of_ble_eq_true e) h)
  · unfold lowL at e
    rw [Bool.and_eq_true] at e
    exact .cons (ih1 e.1) (ih2 e.2)
theorem RVs.low {K : PySem.W.Frag} {n : Nat} (hρ : ∀ a, a ∈ ρ' → a ∈ ρ) (hp : ∀ (i : Nat) (a : Addr), i < n → ρ[i]? = some a → ρ'[i]? = some a) : ∀ {ds : List D} {vs : List V}, RVs K B ρ H ds vs → lowL n ds = true → RVs K B ρ' H ds vs
  | _, _, .nil, _ => .nil
  | _, _, .cons h t, e => by
    unfold lowL at e
    rw [Bool.and_eq_true] at e
    exact .cons (h.low hρ hp e.1) (RVs.low hρ hp t e.2)
theorem RO.low {n : Nat} (hρ : ∀ a, a ∈ ρ' → a ∈ ρ) (hp : ∀ (i : Nat) (a : Addr), i < n → ρ[i]? = some a → ρ'[i]? = some a) {a : Addr} {o : Ob} (h : RO G B L ρ H a o) (e : lowO n o = true) : RO G B L ρ' H a o := by
  cases o with
  | lst ds => obtain ⟨vs, q, r⟩ := h; exact ⟨vs, q, r.low hρ hp e⟩
  | dct lk kvs =>
    obtain ⟨ents, q, r⟩ := h
    refine ⟨ents, q, ?_⟩
    have e := show List.all _ _ = true from e
    clear q; induction r with
    | nil => exact .nil
    | cons h1 h2 h3 h4 _ ih =>
      rw [List.all_cons, Bool.and_eq_true, Bool.and_eq_true] at e
      exact .cons h1 (h2.low hρ hp e.1.1) h3 (h4.low hρ hp e.1.2) (ih e.2 e.2)
  | dki lk kvs =>
    obtain ⟨ents, q, r⟩ := h
    refine ⟨ents, q, ?_⟩
    have e := show List.all _ _ = true from e
    clear q; induction r with
    | nil => exact .nil
    | cons h4 _ ih =>
      rw [List.all_cons, Bool.and_eq_true] at e
      exact .cons (h4.low hρ hp e.1) (ih e.2 e.2)
  | ins fs =>
    obtain ⟨C, d, ents, hb, q, r⟩ := h
    refine ⟨C, d, ents, hb, q, ?_⟩
    have e := show List.all _ _ = true from e
    clear q; induction r with
    | nil => exact .nil
    | cons h4 _ ih =>
      rw [List.all_cons, Bool.and_eq_true] at e
      exact .cons (h4.low hρ hp e.1) (ih e.2 e.2)
/-- the store's first part alone -/
theorem RH.cut {t : List Addr} (R : RH G B L (ρ ++ t) H S) (e : (S.take ρ.length).all (lowO ρ.length) = true) : RH G B L ρ H (S.take ρ.length) := by
  have hl := R.len
  rw [List.length_append] at hl
  refine ⟨by rw [List.length_take]; omega, (List.nodup_append.mp R.nd).1, fun a ha => R.dj a (List.mem_append_left _ ha), R.avo, R.lk, fun n a o h1 h2 => ?_⟩
  have hn : n < ρ.length := (List.getElem?_eq_some_iff.mp h1).1
  have h2' : S[n]? = some o := by rw [List.getElem?_take_of_lt hn] at h2; exact h2
  have h1' : (ρ ++ t)[n]? = some a := by rw [List.getElem?_append_left hn]; exact h1
  exact (R.ob n a o h1' h2').low (fun a z => List.mem_append_left _ z) (fun i a hi z => by rw [List.getElem?_append_left hi] at z; exact z) (List.all_eq_true.mp e o (List.mem_of_getElem? h2))
theorem Post.cut {L t : List Addr} {H' : Hp} (p : Post L ρ H (ρ ++ t) H') : Post L ρ H ρ H' := ⟨p.ext, ⟨[], by simp⟩, fun _ h => .inl h⟩
theorem mapO_ok {K : PySem.W.Frag} {f : D → Option D} (h : ∀ d d' v, RV K B ρ' H d v → f d = some d' → RV K B ρ H d' v) : ∀ {ds ds' : List D} {vs : List V}, RVs K B ρ' H ds vs → mapO f ds = some ds' → RVs K B ρ H ds' vs
  | [], _, _, .nil, e => by cases e; exact .nil
  | d :: ds, ds', _, .cons r t, e => by
    unfold mapO at e
    cases e1 : f d with
    | none => rw [e1] at e; cases e
    | some x =>
      cases e2 : mapO f ds with
      | none => rw [e1, e2] at e; cases e
      | some xs => rw [e1, e2] at e; cases e; exact .cons (h _ _ _ r e1) (mapO_ok h t e2)
theorem frz_ok {t : List Addr} (R : RH G B L (ρ ++ t) H S) : ∀ (k : Nat) (d d' : D) (v : V), RV G.K B (ρ ++ t) H d v → frzD k S ρ.length d = some d' → RV G.K B ρ H d' v := by
  intro k
  induction k with
  | zero => intro d d' v _ e; cases e
  | succ k ih =>
    intro d d' v r e
    unfold frzD at e
    have out : ∀ a, a ∉ ρ ++ t → a ∉ ρ := fun a h z => h (List.mem_append_left _ z)
    cases r with
    | non => cases e; exact .non
    | bl b => cases e; exact .bl b
    | int b => cases e; exact .int b
    | str b => cases e; exact .str b
    | glob h => cases e; exact .glob h
    | @tup a vs ds h r =>
      simp only at e
      cases q : mapO (frzD k S ρ.length) ds with
      | none => rw [q] at e; cases e
      | some xs => rw [q] at e; cases e; exact .tup ⟨h.1, out _ h.2.1, h.2.2⟩ (mapO_ok (fun d d' v r e => ih d d' v r e) r q)
    | @lst a vs ds h1 h2 h3 r =>
      simp only at e
      cases q : mapO (frzD k S ρ.length) ds with
      | none => rw [q] at e; cases e
      | some xs => rw [q] at e; cases e; exact .lst h1 (out _ h2) h3 (mapO_ok (fun d d' v r e => ih d d' v r e) r q)
    | @scr a vs ds h r =>
      simp only at e
      cases q : mapO (frzD k S ρ.length) ds with
      | none => rw [q] at e; cases e
      | some xs => rw [q] at e; cases e; exact .scr (h.imp (fun h => ⟨h.1, out _ h.2.1, h.2.2⟩) id) (mapO_ok (fun d d' v r e => ih d d' v r e) r q)
    | @loc i a h =>
      simp only at e
      cases hb : Nat.blt i ρ.length with
      | true =>
        rw [hb] at e; cases e
        have hi : i < ρ.length := Nat.le_of_ble_eq_true hb
        rw [List.getElem?_append_left hi] at h
        exact .loc h
      | false =>
        rw [hb] at e
        simp only [cond_false] at e
        have hi : ρ.length ≤ i := by
          rcases Nat.lt_or_ge i ρ.length with z | z
          · have : Nat.blt i ρ.length = true := Nat.ble_eq_true_of_le z
            rw [hb] at this; cases this
          · exact z
        cases q : S[i]? with
        | none => rw [q] at e; cases e
        | some o =>
          rw [q] at e
          cases o with
          | lst l =>
            simp only at e
            obtain ⟨vs, h1, h2⟩ := R.ob i a _ h q
            cases q2 : mapO (frzD k S ρ.length) l with
            | none => rw [q2] at e; cases e
            | some xs =>
              rw [q2] at e; cases e
              have hm : a ∈ ρ ++ t := List.mem_of_getElem? h
              have ha : a ∉ ρ := fun z => by
                obtain ⟨j, hj⟩ := List.mem_iff_getElem?.mp z
                have hjl := (List.getElem?_eq_some_iff.mp hj).1
                have : (ρ ++ t)[j]? = some a := by rw [List.getElem?_append_left hjl]; exact hj
                have := L2.nd_ix R.nd this h
                omega
              exact .lst (R.dj a hm) ha h1 (mapO_ok (fun d d' v r e => ih d d' v r e) h2 q2)
          | _ => cases e
end

/-! ### what a function's def promises -/
def spOf (G : Pg) (xm : XM) (n : Nat) (F : Fn) : Sp := fun vs H Q E => vs.length = n ∧ ∃ B L ρ S ds, RH G B L ρ H S ∧ RVs G.K B ρ H ds vs ∧
  match F ds S with
  | .ok d S' => ∀ v ρ' H', Post L ρ H ρ' H' → RH G B L ρ' H' S' → RV G.K B ρ' H' d v → Q v H'
  | .exc c S' => ∀ ρ' H', Post L ρ H ρ' H' → RH G B L ρ' H' S' → E (xm c) none H'
  | .bad => False
section
variable {P : Program} {w : World} {K : PySem.W.Frag} {mg : Str → Option Value} {base : Heap}
theorem fn_ok {x qual : Str} {st : Stmt} {f : Addr} {fd : FuncData} {N ps : List Str} {k : Nat} {m : Bool} {b : FS} (xm : XM) (F : Fun K x qual st f fd) (Sc : FnScope N ps (defScope st))
    (h : ∀ (cdv : Value) (A : Around) (outer : List PySem.Env) (s : Shared) (H : Hp) (E : XK) (W : WX), Room k (A.deeper (envOfC qual (defScope st) s.heap.objs.size f cdv)) →
      Takes (cxOf (L2.CX P w) P w K mg base N qual (defScope st) f cdv A outer s H E) W → SSs (cxOf (L2.CX P w) P w K mg base N qual (defScope st) f cdv A outer s H E) ⟨W, xm⟩ (defBody st) b) :
    FnOk P w K mg base (L2.CX P w) (k + 1) f fd ps (spOf ⟨P, w, K⟩ xm ps.length (fn m N.length b)) := by
  refine F.okX Sc (fun vs H Q E h => h.1) (fun cdv A outer s H vs Q E hr hs => ?_)
  have tk : Takes (cxOf (L2.CX P w) P w K mg base N qual (defScope st) f cdv A outer s H E) (fun cls d _ H => E cls d H) := takes_of rfl rfl rfl rfl
  refine ⟨_, h cdv A outer s H E _ hr tk, ?_⟩
  obtain ⟨hl, B, L, ρ, S, ds, R, rv, g⟩ := hs
  have hNl : ps.length ≤ N.length := by have := congrArg List.length Sc.pre; rw [List.length_take] at this; omega
  refine ⟨B, L, ρ, S, ds ++ List.replicate (N.length - ds.length) .und, ⟨R, ⟨?_, fun i d e => ?_⟩⟩, ?_⟩
  · unfold L2.start
    rw [List.length_append, List.length_append, List.length_map, List.length_replicate, List.length_replicate, rv.length]
  · by_cases hi : i < ds.length
    · rw [List.getElem?_append_left hi] at e
      obtain ⟨v, e1, r1⟩ := rv.get e
      refine .inr ⟨v, ?_, r1⟩
      unfold L2.start
      rw [List.getElem?_append_left (by rw [List.length_map, ← rv.length]; exact hi), List.getElem?_map, e1]
      rfl
    · rw [List.getElem?_append_right (by omega)] at e
      exact .inl (List.eq_of_mem_replicate (List.mem_of_getElem? e))
  · revert g
    unfold fn
    have endF_ok : ∀ {d : D} {v : V} {ρ' : List Addr} {H' : Hp} {S' : Sto}, (match endF S.length d S' with
        | .ok d S' => ∀ v ρ' H', Post L ρ H ρ' H' → RH ⟨P, w, K⟩ B L ρ' H' S' → RV K B ρ' H' d v → Q v H'
        | .exc c S' => ∀ ρ' H', Post L ρ H ρ' H' → RH ⟨P, w, K⟩ B L ρ' H' S' → E (xm c) none H'
        | .bad => False) → Post L ρ H ρ' H' → RH ⟨P, w, K⟩ B L ρ' H' S' → RV K B ρ' H' d v → Q v H' := by
      intro d v ρ' H' S' g p R' r'
      unfold endF at g
      cases hb : Nat.beq S'.length S.length with
      | true => rw [hb] at g; exact g v ρ' H' p R' r'
      | false =>
        rw [hb] at g
        simp only [cond_false] at g
        obtain ⟨t, rfl⟩ := p.pre
        cases hf : frzD 9 S' S.length d with
        | none => rw [hf] at g; exact g.elim
        | some d' =>
          rw [hf] at g
          simp only at g
          cases hl : (S'.take S.length).all (lowO S.length) with
          | false => rw [hl] at g; exact g.elim
          | true =>
            rw [hl] at g
            rw [← R.len] at hf hl g
            exact g v ρ H' p.cut (R'.cut hl) (frz_ok R' 9 d d' v r' hf)
    cases b (ds ++ List.replicate (N.length - ds.length) .und) S with
    | nx env' S' => exact fun g σ' ρ' H' p R' re => endF_ok g p R' .non
    | bk env' S' => exact fun g => g.elim
    | ct env' S' => exact fun g => g.elim
    | bad => exact fun g => g.elim
    | xc c S' =>
      intro g σ' ρ' H' p R'
      unfold fnEnd endX at g
      simp only at g
      cases hb : Nat.beq S'.length S.length with
      | true => rw [hb] at g; exact g ρ' H' p R'
      | false =>
        rw [hb] at g
        simp only [cond_false] at g
        obtain ⟨t, rfl⟩ := p.pre
        cases hl : (S'.take S.length).all (lowO S.length) with
        | false => rw [hl] at g; exact g.elim
        | true =>
          rw [hl] at g
          rw [← R.len] at hl g
          exact g ρ H' p.cut (R'.cut hl)
    | rt d S' =>
      cases m with
      | false => exact fun g v ρ' H' p R' r' => endF_ok g p R' r'
      | true =>
        intro g v ρ' H' p R' r'
        unfold fnEnd endM at g
        simp only [cond_true] at g
        cases r' with
        | @loc i a h =>
          simp only at g
          cases hb : Nat.ble S.length i with
          | false => rw [hb] at g; exact g.elim
          | true =>
            rw [hb] at g
            simp only [cond_true] at g
            have hi : S.length ≤ i := Nat.le_of_ble_eq_true hb
            cases q : S'[i]? with
            | none => rw [q] at g; exact g.elim
            | some o =>
              rw [q] at g
              simp only at g
              cases hl : ((S'.take S.length).all (lowO S.length) && lowO S.length o) with
              | false => rw [hl] at g; exact g.elim
              | true =>
                rw [hl] at g
                rw [Bool.and_eq_true] at hl
                obtain ⟨t, rfl⟩ := p.pre
                rw [← R.len] at hl g hi
                have R2 := R'.cut hl.1
                have hm : a ∈ ρ ++ t := List.mem_of_getElem? h
                have ha : a ∉ ρ := fun z => by
                  obtain ⟨j, hj⟩ := List.mem_iff_getElem?.mp z
                  have hjl := (List.getElem?_eq_some_iff.mp hj).1
                  have : (ρ ++ t)[j]? = some a := by rw [List.getElem?_append_left hjl]; exact hj
                  have := L2.nd_ix R'.nd this h
                  omega
                have hsub : ∀ b, b ∈ ρ ++ [a] → b ∈ ρ ++ t := fun b hb => (List.mem_append.mp hb).elim (List.mem_append_left _) fun z => by simp at z; rw [z]; exact hm
                refine g (.ref a) (ρ ++ [a]) H' ⟨p.ext, ⟨[a], rfl⟩, fun b hb => p.new b (hsub b hb)⟩ ⟨?_, ?_, fun b hb => R'.dj b (hsub b hb), R'.avo, R'.lk, fun n b ob h1 h2 => ?_⟩ (.loc ?_)
                · have := R2.len
                  simp only [List.length_append, List.length_cons, List.length_nil]
                  omega
                · rw [List.nodup_append]
                  refine ⟨R2.nd, by simp, fun b hb c hc => ?_⟩
                  simp at hc; subst hc
                  rintro rfl
                  exact ha hb
                · have lift : ∀ {ob : Ob}, lowO ρ.length ob = true → RO ⟨P, w, K⟩ B L (ρ ++ t) H' b ob → RO ⟨P, w, K⟩ B L (ρ ++ [a]) H' b ob := fun e q =>
                    q.low hsub (fun j c hj z => by rw [List.getElem?_append_left hj] at z; rw [List.getElem?_append_left hj]; exact z) e
                  by_cases hn : n < ρ.length
                  · rw [List.getElem?_append_left hn] at h1
                    rw [List.getElem?_append_left (by rw [← R2.len]; exact hn)] at h2
                    have h2' : S'[n]? = some ob := by rw [List.getElem?_take_of_lt hn] at h2; exact h2
                    exact lift (List.all_eq_true.mp hl.1 ob (List.mem_of_getElem? h2)) (R'.ob n b ob (by rw [List.getElem?_append_left hn]; exact h1) h2')
                  · have hn' : n = ρ.length := by
                      have := (List.getElem?_eq_some_iff.mp h1).1
                      simp at this; omega
                    subst hn'
                    have e1 : (S'.take ρ.length).length = ρ.length := R2.len.symm
                    rw [List.getElem?_append_right (Nat.le_refl _)] at h1
                    rw [List.getElem?_append_right (by rw [e1]; exact Nat.le_refl _), e1] at h2
                    simp only [Nat.sub_self, List.getElem?_cons_zero, Option.some.injEq] at h1 h2
                    subst h1; subst h2
                    exact lift hl.2 (R'.ob i a o h q)
                · rw [List.getElem?_append_right (Nat.le_refl _)]; simp
        | _ => exact g.elim
/-- a def that is never reached at this depth -/
theorem fn_bad {k : Nat} {f : Addr} {fd : FuncData} {ps : List Str} {xm : XM} {n : Nat} (h : ps.length = n) : FnOk P w K mg base (L2.CX P w) k f fd ps (spOf ⟨P, w, K⟩ xm n fun _ _ => .bad) :=
  ⟨fun vs H Q E h' => h'.1.trans h.symm, fun A outer s H args us vs Q E _ _ _ _ h => let ⟨_, _, _, _, _, _, _, _, z⟩ := h; z.elim⟩
end

/-! ### calls -/
def fCall (F : Fn) (fs : FA) : FE := fun env S => (fs env S).bind fun ds S1 => F ds S1
def pureF (F : Fn) : Fn := fun ds S => bif lowL 0 ds then (match F ds [] with
  | .ok d [] => .ok d S
  | .exc c [] => .exc c S
  | _ => .bad) else .bad
section
variable {X : Cx} {w : Wx} {k n : Nat} {f : Addr} {fd : FuncData} {ps : List Str} {F : Fn} {x : Str} {p pos : Pos} {e : Expr} {es : List Expr} {fs : FA}
theorem se_call (FO : FnOk X.prog X.w X.K X.mg X.base (L2.CX X.prog X.w) k f fd ps (spOf (pg X) w.xm n F)) (hn : (e :: es).length = n) (tk : Takes X w.W) (hr : Room k X.A) (hm : X.mg x = some (.ref f)) (hk : PySem.W.keepIn X.K (.ref f) = true) (hb : Binds X.K fd ps [])
    (ha : SA X w (e :: es) fs) (hlen : ∀ env S ds S', fs env S = .ok ds S' → ds.length = n) (hg : Gl X x := by rfl) (hdb : (x == ("__debug__" : Str)) = false := by decide) (he : starEach (e :: es) X.env = (false, eval e X.env) :: starEach es X.env := by rfl) (hpl : (backTo pos (starEach es X.env)).any (·.1) = false := by rfl) :
    SE X w (.Call (.Name x p) (e :: es) [] pos) (fCall F fs) :=
  PE.imp (pe_callS FO hr hg hm hk hb (passAt tk) ha hdb he hpl) fun σ H Q ⟨B, L, ρ, S, env, A, g⟩ => by
    refine ⟨B, L, ρ, S, env, A, ?_⟩
    revert g
    unfold fCall
    cases hfs : fs env S with
    | exc c S' => exact fun g => g
    | bad => exact fun g => g
    | ok ds S' =>
      intro g vs ρ' H' pp R r
      have g' : GO (pg X) w.W w.xm B L ρ' H' σ (rD (pg X) B) (F ds S') Q := GO.step g pp
      refine ⟨by rw [← RVs.length r]; exact hlen _ _ _ _ hfs, B, L, ρ', S', ds, R, r, ?_⟩
      revert g'
      cases F ds S' with
      | ok d S2 => exact fun g => g
      | exc c S2 => exact fun g => g
      | bad => exact fun g => g
theorem spOf_pure {G : Pg} {xm : XM} {n : Nat} {F : Fn} {vs : List V} {H : Hp} {Q : VK} {E : XK} (h : spOf G xm n (pureF F) vs H Q E) : spOf G xm n F vs H Q E := by
  obtain ⟨hl, B, L, ρ, S, ds, R, r, g⟩ := h
  refine ⟨hl, B ++ ρ, L, [], [], ds, ⟨rfl, List.nodup_nil, (fun a z => nomatch z), fun b hb => (List.mem_append.mp hb).elim (R.avo b) R.someM, R.lk, fun n a o h => (by simp at h)⟩, ?_⟩
  unfold pureF at g
  cases hlow : lowL 0 ds with
  | false => rw [hlow] at g; exact g.elim
  | true =>
    rw [hlow] at g
    simp only [cond_true] at g
    refine ⟨?_, ?_⟩
    · -- the places that the caller may change are avoided
      have key : ∀ {d : D} {v : V}, RV G.K B ρ H d v → lowD 0 d = true → RV G.K (B ++ ρ) [] H d v := by
        intro d v h
        refine RV.rec (motive_1 := fun d v _ => lowD 0 d = true → RV G.K (B ++ ρ) [] H d v) (motive_2 := fun ds vs _ => lowL 0 ds = true → RVs G.K (B ++ ρ) [] H ds vs) (fun _ => .non) (fun b _ => .bl b) (fun i _ => .int i) (fun x _ => .str x) (fun h _ ih e => ?_) (fun h1 h2 h3 _ ih e => ?_) (fun h _ ih e => ?_) (fun h e => ?_) (fun h _ => .glob h) (fun _ => .nil) (fun _ _ ih1 ih2 e => ?_) h
        · exact .tup ⟨fun z => (List.mem_append.mp z).elim h.1 h.2.1, (fun z => nomatch z), h.2.2⟩ (ih e)
        · exact .lst (fun z => (List.mem_append.mp z).elim h1 h2) (fun z => nomatch z) h3 (ih e)
        · exact .scr (h.imp (fun h => ⟨fun z => (List.mem_append.mp z).elim h.1 h.2.1, (fun z => nomatch z), h.2.2⟩) id) (ih e)
        · exact absurd (Nat.le_of_ble_eq_true e) (Nat.not_succ_le_zero _)
        · unfold lowL at e
          rw [Bool.and_eq_true] at e
          exact .cons (ih1 e.1) (ih2 e.2)
      have keys : ∀ {ds : List D} {vs : List V}, RVs G.K B ρ H ds vs → lowL 0 ds = true → RVs G.K (B ++ ρ) [] H ds vs := by
        intro ds vs h
        induction ds generalizing vs with
        | nil => intro _; cases h; exact .nil
        | cons d ds ih =>
          cases h with
          | cons h t =>
            intro e
            unfold lowL at e
            rw [Bool.and_eq_true] at e
            exact .cons (key h e.1) (ih t e.2)
      exact keys r hlow
    · have back : ∀ {H' : Hp} {ρ' : List Addr}, Post L [] H ρ' H' → Post L ρ H ρ H' := fun p => ⟨fun a u _ => p.ext a u (.inl fun z => nomatch z), ⟨[], by simp⟩, fun _ h => .inl h⟩
      have backR : ∀ {H' : Hp} {ρ' : List Addr}, Post L [] H ρ' H' → RH G B L ρ H' S := fun p =>
        ⟨R.len, R.nd, R.dj, fun b hb => let ⟨u, e⟩ := R.avo b hb; ⟨u, p.ext b u (.inl fun z => nomatch z) e⟩, fun a ha => let ⟨o, u, e⟩ := R.lk a ha; ⟨o, u, p.ext a _ (.inl fun z => nomatch z) e⟩, fun n a o h1 h2 => by
          obtain ⟨u, e⟩ := R.there h1
          exact (R.ob n a o h1 h2).mono (back p) ((p.ext a u (.inl fun z => nomatch z) e).trans e.symm)⟩
      revert g
      cases F ds [] with
      | bad => exact fun g => g
      | exc c S' =>
        cases S' with
        | nil => exact fun g ρ' H' p R' => g ρ H' (back p) (backR p)
        | cons => exact fun g => g.elim
      | ok d S' =>
        cases S' with
        | nil =>
          intro g v ρ' H' p R' r'
          have hρ : ρ' = [] := List.eq_nil_of_length_eq_zero R'.len
          subst hρ
          exact g v ρ H' (back p) (backR p) (r'.re (fun a z => .inl (List.mem_append.mpr z)) fun n a z => by simp at z)
        | cons => exact fun g => g.elim
theorem fn_pure {P : Program} {w : World} {K : PySem.W.Frag} {mg : Str → Option Value} {base : Heap} {G : Pg} {xm : XM} {k n : Nat} {f : Addr} {fd : FuncData} {ps : List Str} {F : Fn} (h : FnOk P w K mg base (L2.CX P w) k f fd ps (spOf G xm n F)) : FnOk P w K mg base (L2.CX P w) k f fd ps (spOf G xm n (pureF F)) :=
  h.imp fun vs H Q E => spOf_pure
end
end Sf
end

section
set_option Elab.async false
set_option maxRecDepth 100000
set_option linter.all false
/-! Sf8: methods of lists, chains, a walk over a list's place, the law's end. -/
namespace Sf
open PySem PySem.Spec PyProof.Rows L2 RZ

/-! ### built-in names -/
theorem bt_len : bootBuiltins "len" = some (.builtin "len") := by decide +kernel
theorem bt_abs : bootBuiltins "abs" = some (.builtin "abs") := by decide +kernel
theorem bt_max : bootBuiltins "max" = some (.builtin "max") := by decide +kernel
theorem bt_min : bootBuiltins "min" = some (.builtin "min") := by decide +kernel
theorem bt_sum : bootBuiltins "sum" = some (.builtin "sum") := by decide +kernel
theorem bt_all : bootBuiltins "all" = some (.builtin "all") := by decide +kernel
theorem bt_any : bootBuiltins "any" = some (.builtin "any") := by decide +kernel
theorem bt_isinstance : bootBuiltins "isinstance" = some (.builtin "isinstance") := by decide +kernel
theorem bt_sorted : bootBuiltins "sorted" = some (.builtin "sorted") := by decide +kernel
theorem bt_int : bootBuiltins "int" = some (.type "int") := by decide +kernel
theorem bt_bool : bootBuiltins "bool" = some (.type "bool") := by decide +kernel
theorem bt_str : bootBuiltins "str" = some (.type "str") := by decide +kernel
theorem bt_list : bootBuiltins "list" = some (.type "list") := by decide +kernel
theorem bt_tuple : bootBuiltins "tuple" = some (.type "tuple") := by decide +kernel

/-! ### lengths of argument lists -/
def LenA (fs : FA) (n : Nat) : Prop := ∀ env S ds S', fs env S = .ok ds S' → ds.length = n
theorem len_nil : LenA fNil 0 := fun env S ds S' h => by cases h; rfl
theorem len_cons {f : FE} {fs : FA} {n : Nat} (h : LenA fs n) : LenA (fCons f fs) (n + 1) := fun env S ds S' e => by
  unfold fCons at e
  cases e1 : f env S with
  | exc c S1 => rw [e1] at e; cases e
  | bad => rw [e1] at e; cases e
  | ok x S1 =>
    rw [e1] at e
    have e : ((fs env S1).bind fun xs S2 => Out.ok (x :: xs) S2) = .ok ds S' := e
    cases e2 : fs env S1 with
    | exc c S2 => rw [e2] at e; cases e
    | bad => rw [e2] at e; cases e
    | ok xs S2 => rw [e2] at e; cases e; rw [List.length_cons, h _ _ _ _ e2]

/-! ### what is never reached -/
def sBad : FS := fun _ _ => .bad
theorem ss_bad {X : Cx} {w : Wx} {st : Stmt} : SS X w st sBad := PS.imp ps_never fun D σ H ⟨B, L, ρ, S, env, A, g⟩ => g.elim

/-! ### x op= e with great factors; chains -/
section
variable {X : Cx} {w : Wx} {a b c : Expr} {fa fb fc : FE} {pos : Pos}
theorem iop_mulW : OpR X (inplaceOp .Mult) (rI CMulW fun i j => .int (i * j)) := opI fun _ _ _ _ _ _ _ hc q => imul_int q hc.ok
def oMulI : Op2 := fun x y S => match x, y with
  | .int i, .int j => bif mulOk i j then some (.int (i * j), S) else none
  | _, _ => none
def oAddI : Op2 := fun x y S => match x, y with
  | .int i, .int j => some (.int (i + j), S)
  | _, _ => none
theorem ok_addI : Ok2 (pg X) (rI0 fun i j => .int (i + j)) oAddI := by
  intro B L ρ S S' H d1 d2 d' x y Q R r1 r2 e q
  cases r1 with
  | int i =>
    cases r2 with
    | int j => cases e; exact ⟨i, j, rfl, rfl, here q R (.int _)⟩
    | _ => cases e
  | _ => cases e
theorem opr_imul : OpR X (inplaceOp .Mult) (fun x y H Q => rI CMul (fun i j => .int (i * j)) x y H Q ∨ rI CMulW (fun i j => .int (i * j)) x y H Q) := iop_mul.or iop_mulW
theorem ok_mulI : Ok2 (pg X) (fun x y H Q => rI CMul (fun i j => .int (i * j)) x y H Q ∨ rI CMulW (fun i j => .int (i * j)) x y H Q) oMulI := by
  intro B L ρ S S' H d1 d2 d' x y Q R r1 r2 e q
  cases r1 with
  | int i =>
    cases r2 with
    | int j =>
      unfold oMulI at e
      cases hf : mulOk i j with
      | false => simp [hf] at e
      | true =>
        simp [hf] at e; obtain ⟨rfl, rfl⟩ := e
        rcases mulOk_ok hf with c | c
        · exact .inl ⟨i, j, rfl, rfl, c, here q R (.int _)⟩
        · exact .inr ⟨i, j, rfl, rfl, c, here q R (.int _)⟩
    | _ => cases e
  | _ => cases e
/-- a <= b <= c -/
def fChain (p q : Int → Int → Bool) (fa fb fc : FE) : FE := fun env S => (fa env S).bind fun x S1 => (fb env S1).bind fun y S2 => match x, y with
  | .int i, .int j => bif p i j then (fc env S2).bind fun z S3 => (match z with
      | .int k => .ok (.bl (q j k)) S3
      | _ => .bad) else .ok (.bl false) S2
  | _, _ => .bad
theorem go_chain {p q : Int → Int → Bool} {σ : L2.St} {H : Hp} {Q : VK} (h : tE (pg X) w.W w.xm (fChain p q fa fb fc) σ H Q) :
    tChain (rI0 fun i j => .bl (p i j)) (rI0 fun i j => .bl (q i j)) (tE (pg X) w.W w.xm fa) (tE (pg X) w.W w.xm fb) (tE (pg X) w.W w.xm fc) σ H Q := by
  obtain ⟨B, L, ρ, S, env, A, g⟩ := h
  refine tE_mono (tE_bind2 (rel := rD (pg X)) A g) fun x H1 h1 => tE_mono h1 fun y H2 ⟨B, L, ρ, S, d, d2, A, r, r2, g⟩ => ?_
  cases r with
  | int i =>
    cases r2 with
    | int j =>
      refine ⟨i, j, rfl, rfl, _, rfl, ?_⟩
      simp only at g
      cases hp : p i j with
      | false => rw [hp] at g; exact iteF (GO.ok0 g A (.bl _))
      | true =>
        rw [hp] at g
        refine iteT (tE_mono (tE_bind (rel := rD (pg X)) A g) fun z H3 ⟨B, L, ρ, S, d, A, r, g⟩ => ?_)
        cases r with
        | int k => exact ⟨j, k, rfl, rfl, GO.ok0 g A (.bl _)⟩
        | _ => exact g.elim
    | _ => exact g.elim
  | _ => exact g.elim
theorem se_chain {op op' : CmpOp} {p q : Int → Int → Bool} (ho : OpR X (compareOp op) (rI0 fun i j => .bl (p i j))) (ho' : OpR X (compareOp op') (rI0 fun i j => .bl (q i j))) (ha : SE X w a fa) (hb : SE X w b fb) (hc : SE X w c fc)
    (hm : lastMarks [op, op'] [b, c] = false := by with_unfolding_all rfl) : SE X w (.Compare a [op, op'] [b, c] pos) (fChain p q fa fb fc) :=
  PE.imp (pe_chain ho ho' ha hb hc hm) fun σ H Q h => go_chain h
theorem st_chain {op op' : CmpOp} {p q : Int → Int → Bool} (ho : OpR X (compareOp op) (rI0 fun i j => .bl (p i j))) (ho' : OpR X (compareOp op') (rI0 fun i j => .bl (q i j))) (ha : SE X w a fa) (hb : SE X w b fb) (hc : SE X w c fc)
    (hm : lastMarks [op, op'] [b, c] = false := by with_unfolding_all rfl) : ST X w (.Compare a [op, op'] [b, c] pos) (tVal (fChain p q fa fb fc)) :=
  PT.imp (pt_chain ho ho' ha hb hc hm) fun σ H Q ⟨B, L, ρ, S, env, A, gg⟩ => by
    have key : tE (pg X) w.W w.xm (fChain p q fa fb fc) σ H fun x H1 => ∃ k, x = .bl k ∧ Q k H1 := by
      refine tE_mono (tE_bind (rel := fun _ => rB) (f := fChain p q fa fb fc) A gg) fun x H1 ⟨B, L, ρ, S, d, A, r, g⟩ => ?_
      cases r with
      | bl c => exact ⟨c, rfl, GO.ok0 g A rfl⟩
      | _ => exact g.elim
    exact go_chain key
end

/-! ### methods of a list -/
/-- o.m(e, ..), o.m(): an operation on the receiver and the arguments -/
abbrev OpM := D → List D → Sto → Option (D × Sto)
def fMeth (g : OpM) (fo : FE) (fs : FA) : FE := fun env S => (fo env S).bind fun o S1 => (fs env S1).bind fun xs S2 => outO (g o xs S2)
def mAppend : OpM := fun o xs S => match o, xs with
  | .loc n, [x] => match S[n]? with
    | some (.lst l) => bif fitS l.length then some (.non, S.set n (.lst (l ++ [x]))) else none
    | _ => none
  | _, _ => none
def mExtend : OpM := fun o xs S => match o, xs with
  | .loc n, [y] => match S[n]?, lsW y S with
    | some (.lst l), some m => bif fit (l.length + m.length) then some (.non, S.set n (.lst (l ++ m))) else none
    | _, _ => none
  | _, _ => none
def mPop : OpM := fun o xs S => match o, xs with
  | .loc n, [] => match S[n]? with
    | some (.lst l) => match l.getLast? with
      | some x => some (x, S.set n (.lst l.dropLast))
      | none => none
    | _ => none
  | _, _ => none
def mCount : OpM := fun o xs S => match lsR o S, xs with
  | some l, [.int k] => match intsD l with
    | some ns => some (.int ((ns.count k : Nat) : Int), S)
    | none => none
  | _, _ => none
abbrev OkM (G : Pg) (r : V → List V → Hp → VK → Prop) (g : OpM) : Prop := ∀ (B L ρ : List Addr) (S S' : Sto) (H : Hp) (o : D) (ds : List D) (d' : D) (x : V) (xs : List V) (Q : VK), RH G B L ρ H S → RV G.K B ρ H o x → RVs G.K B ρ H ds xs → g o ds S = some (d', S') →
  (∀ v ρ' H', Post L ρ H ρ' H' → RH G B L ρ' H' S' → RV G.K B ρ' H' d' v → Q v H') → r x xs H Q
section
variable {X : Cx} {w : Wx} {o e : Expr} {es : List Expr} {fo : FE} {fs : FA} {name : Str} {apos cpos : Pos}
/-- the receiver is a list -/
def isLs (d : D) (S : Sto) : Bool := (lsR d S).isSome
def fMethL (g : OpM) (fo : FE) (fs : FA) : FE := fun env S => (fo env S).bind fun o S1 => bif isLs o S1 then (fs env S1).bind fun xs S2 => outO (g o xs S2) else .bad
theorem isLs_ok {G : Pg} {B L ρ : List Addr} {S : Sto} {H : Hp} {d : D} {x : V} (R : RH G B L ρ H S) (r : RV G.K B ρ H d x) (h : isLs d S = true) : tyV G.K "list" x H := by
  unfold isLs at h
  obtain ⟨l, e⟩ := Option.isSome_iff_exists.mp h
  obtain ⟨a, vs, rfl, h1, h2⟩ := lsR_ok R r e
  exact .inl ⟨rfl, vs, h1⟩
theorem go_methL {g : OpM} {r : V → List V → Hp → VK → Prop} (h : OkM (pg X) r g) {σ : L2.St} {H : Hp} {Q : VK} (ht : tE (pg X) w.W w.xm (fMethL g fo fs) σ H Q) :
    tE (pg X) w.W w.xm fo σ H fun x H1 => tyV X.K "list" x H1 ∧ tA (pg X) w.W w.xm fs σ H1 fun xs H2 => r x xs H2 Q := by
  obtain ⟨B, L, ρ, S, env, A, gg⟩ := ht
  refine ⟨B, L, ρ, S, env, A, ?_⟩
  revert gg
  unfold fMethL
  cases fo env S with
  | exc c S' => exact fun g => g
  | bad => exact fun g => g
  | ok d S' =>
    intro g1 v ρ' H' p R r1
    have g2 : GO (pg X) w.W w.xm B L ρ' H' σ (rD (pg X) B) (bif isLs d S' then (fs env S').bind fun xs S2 => outO (g d xs S2) else .bad) Q := GO.step g1 p
    cases hl : isLs d S' with
    | false => rw [hl] at g2; exact g2.elim
    | true =>
      rw [hl] at g2
      refine ⟨isLs_ok (G := pg X) R r1 hl, B, L, ρ', S', env, A.step p R, ?_⟩
      revert g2
      show GO (pg X) w.W w.xm B L ρ' H' σ (rD (pg X) B) ((fs env S').bind fun xs S2 => outO (g d xs S2)) Q → _
      cases fs env S' with
      | exc c S' => exact fun g => g
      | bad => exact fun g => g
      | ok ds S2 =>
        intro g2 vs ρ2 H2 p2 R2 r2
        have g3 : GO (pg X) w.W w.xm B L ρ2 H2 σ (rD (pg X) B) (outO (g d ds S2)) Q := GO.step g2 p2
        obtain ⟨d', S3, e, q⟩ := g3.outO
        exact h B L ρ2 S2 S3 H2 d ds d' v vs Q R2 (r1.mono p2) r2 e q
theorem ok_append : OkM (pg X) rAppend mAppend := by
  intro B L ρ S S' H o ds d' x xs Q R ro rs e q
  match o, ds, e with
  | .loc n, [d], e =>
    obtain ⟨y, rfl, r⟩ := rvs1 rs
    cases ro with
    | @loc _ a h =>
      unfold mAppend at e
      simp only at e
      cases q1 : S[n]? with
      | none => rw [q1] at e; cases e
      | some ob =>
        rw [q1] at e
        cases ob with
        | lst l =>
          simp only at e
          cases hf : fitS l.length with
          | false => rw [hf] at e; cases e
          | true =>
            rw [hf] at e; cases e
            obtain ⟨vs, h1, h2⟩ := R.ob n a _ h q1
            have hl : a ∉ L := R.notL h1 fun _ _ z => nomatch z
            exact ⟨a, vs, y, rfl, rfl, h1, by rw [← h2.length]; exact fitS_lt hf, q .non ρ _ (Post.wr h hl) (R.wr h hl ⟨_, upd_same, RVs.mono (Post.wr (L := L) h hl) _ _ (h2.append (.cons r .nil))⟩) .non⟩
        | _ => cases e
theorem ok_extend : OkM (pg X) rExtend mExtend := by
  intro B L ρ S S' H o ds d' x xs Q R ro rs e q
  match o, ds, e with
  | .loc n, [d], e =>
    obtain ⟨y, rfl, r⟩ := rvs1 rs
    cases ro with
    | @loc _ a h =>
      unfold mExtend at e
      simp only at e
      cases q1 : S[n]? with
      | none => rw [q1] at e; cases e
      | some ob =>
        cases ob with
        | lst l =>
          cases q2 : lsW d S with
          | none => rw [q1, q2] at e; cases e
          | some m =>
            rw [q1, q2] at e
            simp only at e
            cases hf : fit (l.length + m.length) with
            | false => rw [hf] at e; cases e
            | true =>
              rw [hf] at e; cases e
              obtain ⟨vs, h1, h2⟩ := R.ob n a _ h q1
              obtain ⟨b, ws, rfl, h3, h4⟩ := lsW_ok (G := pg X) R r q2
              have hl : a ∉ L := R.notL h1 fun _ _ z => nomatch z
              exact ⟨a, b, vs, ws, rfl, rfl, h1, h3, by rw [← h2.length, ← h4.length]; exact fit_le hf, q .non ρ _ (Post.wr h hl) (R.wr h hl ⟨_, upd_same, RVs.mono (Post.wr (L := L) h hl) _ _ (h2.append h4)⟩) .non⟩
        | _ => rw [q1] at e; cases e
theorem ok_pop : OkM (pg X) rPop mPop := by
  intro B L ρ S S' H o ds d' x xs Q R ro rs e q
  match o, ds, e with
  | .loc n, [], e =>
    cases rs
    cases ro with
    | @loc _ a h =>
      unfold mPop at e
      simp only at e
      cases q1 : S[n]? with
      | none => rw [q1] at e; cases e
      | some ob =>
        rw [q1] at e
        cases ob with
        | lst l =>
          simp only at e
          cases q2 : l.getLast? with
          | none => rw [q2] at e; cases e
          | some z =>
            rw [q2] at e; cases e
            obtain ⟨vs, h1, h2⟩ := R.ob n a _ h q1
            have hl : a ∉ L := R.notL h1 fun _ _ z => nomatch z
            rw [List.getLast?_eq_getElem?, h2.length] at q2
            obtain ⟨y, e2, r2⟩ := h2.get q2
            exact ⟨a, vs, y, rfl, rfl, h1, e2, q y ρ _ (Post.wr h hl) (R.wr h hl ⟨_, upd_same, RVs.mono (Post.wr (L := L) h hl) _ _ h2.dropLast⟩) (r2.mono (Post.wr (L := L) h hl))⟩
        | _ => cases e
theorem ok_count : OkM (pg X) (rCntI X.K) mCount := by
  intro B L ρ S S' H o ds d' x xs Q R ro rs e q
  unfold mCount at e
  cases e1 : lsR o S with
  | none => rw [e1] at e; cases e
  | some l =>
    rw [e1] at e
    match ds, e with
    | [.int k], e =>
      obtain ⟨y, rfl, r⟩ := rvs1 rs
      cases r
      simp only at e
      cases e2 : intsD l with
      | none => rw [e2] at e; cases e
      | some ns =>
        rw [e2] at e; cases e
        obtain ⟨a, vs, rfl, h1, h2⟩ := lsR_ok (G := pg X) R ro e1
        obtain rfl := intsD_ok (G := pg X) h2 e2
        exact ⟨a, ns, k, rfl, rfl, h1, here (G := pg X) q R (.int _)⟩
theorem se_append (ho : SE X w o fo) (ha : SA X w [e] fs) (hbase : attributeBase o "append" X.env (eval o X.env) = eval o X.env := by rfl)
    (hfew : ((backTo cpos (starEach [e] X.env)).all (fun x => !x.1) && (backToKw cpos (keywordEach [] X.env)).all (fun x => x.1.isSome) && decide (([e] : List Expr).length + ([] : List Keyword).length + (if ([] : List Keyword).isEmpty then 0 else 1) < 30)) = true := by rfl)
    (hline : (apos.endLine == cpos.line) = true := by rfl) (hs : starEach [e] X.env = (false, eval e X.env) :: starEach [] X.env := by rfl) (hplain : (backTo cpos (starEach [] X.env)).any (·.1) = false := by rfl) :
    SE X w (.Call (.Attribute o "append" apos) [e] [] cpos) (fMethL mAppend fo fs) :=
  PE.imp (pe_bm PySem.F.plainAttrs_list PySem.F.slot_list_append PySem.F.type_list_append mt_append ho ha hbase hfew hline hs hplain) fun σ H Q h => go_methL ok_append h
theorem se_extend (ho : SE X w o fo) (ha : SA X w [e] fs) (hbase : attributeBase o "extend" X.env (eval o X.env) = eval o X.env := by rfl)
    (hfew : ((backTo cpos (starEach [e] X.env)).all (fun x => !x.1) && (backToKw cpos (keywordEach [] X.env)).all (fun x => x.1.isSome) && decide (([e] : List Expr).length + ([] : List Keyword).length + (if ([] : List Keyword).isEmpty then 0 else 1) < 30)) = true := by rfl)
    (hline : (apos.endLine == cpos.line) = true := by rfl) (hs : starEach [e] X.env = (false, eval e X.env) :: starEach [] X.env := by rfl) (hplain : (backTo cpos (starEach [] X.env)).any (·.1) = false := by rfl) :
    SE X w (.Call (.Attribute o "extend" apos) [e] [] cpos) (fMethL mExtend fo fs) :=
  PE.imp (pe_bm PySem.F.plainAttrs_list PySem.F.slot_list_extend PySem.F.type_list_extend mt_extend ho ha hbase hfew hline hs hplain) fun σ H Q h => go_methL ok_extend h
theorem se_count (ho : SE X w o fo) (ha : SA X w [e] fs) (hbase : attributeBase o "count" X.env (eval o X.env) = eval o X.env := by rfl)
    (hfew : ((backTo cpos (starEach [e] X.env)).all (fun x => !x.1) && (backToKw cpos (keywordEach [] X.env)).all (fun x => x.1.isSome) && decide (([e] : List Expr).length + ([] : List Keyword).length + (if ([] : List Keyword).isEmpty then 0 else 1) < 30)) = true := by rfl)
    (hline : (apos.endLine == cpos.line) = true := by rfl) (hs : starEach [e] X.env = (false, eval e X.env) :: starEach [] X.env := by rfl) (hplain : (backTo cpos (starEach [] X.env)).any (·.1) = false := by rfl) :
    SE X w (.Call (.Attribute o "count" apos) [e] [] cpos) (fMethL mCount fo fs) :=
  PE.imp (pe_bm PySem.F.plainAttrs_list PySem.F.slot_list_count PySem.F.type_list_count mt_lcount ho ha hbase hfew hline hs hplain) fun σ H Q h => go_methL ok_count h
theorem se_pop (ho : SE X w o fo) (hbase : attributeBase o "pop" X.env (eval o X.env) = eval o X.env := by rfl) (hline : (apos.endLine == cpos.line) = true := by rfl) :
    SE X w (.Call (.Attribute o "pop" apos) [] [] cpos) (fMethL mPop fo fNil) :=
  PE.imp (pe_bm0 PySem.F.plainAttrs_list PySem.F.slot_list_pop PySem.F.type_list_pop mt_pop ho hbase hline) fun σ H Q h => tE_mono (go_methL (fs := fNil) ok_pop h) fun x H1 ⟨h1, B, L, ρ, S, env, A, g⟩ => ⟨h1, g [] ρ H1 Post.refl A.rh .nil⟩
end

/-! ### a walk over a value or over a list's place -/
def forV (g : D → En → Option En) (b : FS) (n : Nat) : Nat → Nat → FS
  | 0, _ => fun _ _ => .bad
  | k + 1, i => fun env S => match S[n]? with
    | some (.lst l) => match l[i]? with
      | some d => match g d env with
        | none => .bad
        | some env1 => match b env1 S with
          | .nx env' S' => forV g b n k (i + 1) env' S'
          | .ct env' S' => forV g b n k (i + 1) env' S'
          | .bk env' S' => .nx env' S'
          | r => r
      | none => .nx env S
    | _ => .bad
def sForD (a : FE) (g : D → En → Option En) (b : FS) : FS := fun env S => (a env S).bindS fun x S1 => match x with
  | .loc n => match S1[n]? with
    | some (.lst l) => forV g b n (l.length + 1) 0 env S1
    | _ => .bad
  | x => match itemsD x with
    | some l => forL g b l env S1
    | none => .bad

section
variable {X : Cx} {w : Wx} {tg iter : Expr} {body : List Stmt} {fe : FE} {g : D → En → Option En} {t : TG} {is : List Nat} {f : FS} {pos : Pos}
theorem ss_forD (hp : PassesOwn (model X.prog X.w) X.A X.env X.xe) (hc : X.calm = true) (hi : SE X w iter fe) (hg : SG X tg t g is) (hb : SSs X w body f) (hs : ∀ x, foldedSetIterable iter X.env x = pure x := by intro _; rfl) :
    SS X w (.For tg iter body [] pos) (sForD fe g f) := PS.imp (ps_for hp hc (pi_seq hi) hg.pg hb hs) fun D σ H ⟨B, L, ρ, S, env, A, gg⟩ => by
  refine ⟨B, L, ρ, S, env, A, ?_⟩
  revert gg
  unfold sForD
  cases fe env S with
  | exc c S' => exact fun g => g σ
  | bad => exact fun g => g
  | ok d S' =>
    intro gg v ρ1 H1 p R r
    have A1 := A.step p R
    -- a value
    have fixd : ∀ {l : List Sf.D} {J : It} {I : List Addr → List Addr → Hp → Prop}, GS (pg X) w.W w.xm B L ρ H (forL g f l env S') D → WalkOk (pg X) L J l I → I B ρ1 H1 →
        ∃ W : Nat → Nat → L2.St → Hp → Prop, (∃ m, W 0 m σ H1) ∧ ∀ i m σ H, W i m σ H →
          (J.stop i H ∧ D.nx σ H) ∨ (J.go i H ∧ ∃ N : L2.St → Hp → Prop, (∀ σ' H', N σ' H' → ∃ m', m' < m ∧ W (i + 1) m' σ' H') ∧ ∀ x H', J.yld i H x H' → t x σ H' fun σ2 H2 => tS (pg X) w.W w.xm f { D with nx := N, ct := N, bk := D.nx } σ2 H2) := by
      intro l J I gg wk i0
      have g1 : GS (pg X) w.W w.xm B L ρ1 H1 (forL g f l env S') D := GS.step gg p
      refine ⟨fun i m σ H => ∃ ρ S env, At (pg X) B L ρ S env σ H ∧ I B ρ H ∧ i ≤ l.length ∧ m = l.length - i ∧ GS (pg X) w.W w.xm B L ρ H (forL g f (l.drop i) env S) D, ⟨l.length, ρ1, S', env, A1, i0, Nat.zero_le _, rfl, g1⟩, ?_⟩
      rintro i m σ2 H2 ⟨ρ2, S2, env2, A2, i2, hle, rfl, g2⟩
      by_cases hlt : i < l.length
      · refine .inr ⟨wk.go B ρ2 H2 i i2 hlt, fun σ H => ∃ ρ S env, At (pg X) B L ρ S env σ H ∧ I B ρ H ∧ GS (pg X) w.W w.xm B L ρ H (forL g f (l.drop (i + 1)) env S) D, fun σ' H' ⟨ρ, S, env, A, i', g'⟩ => ⟨l.length - (i + 1), by omega, ρ, S, env, A, i', hlt, rfl, g'⟩, ?_⟩
        intro x H3 y
        obtain ⟨p3, R3, r3⟩ := wk.yld B ρ2 S2 H2 H3 i l[i] x i2 A2.rh (List.getElem?_eq_getElem hlt) y
        rw [List.drop_eq_getElem_cons hlt] at g2
        unfold forL at g2
        cases hu : g l[i] env2 with
        | none => rw [hu] at g2; exact g2.elim
        | some env3 =>
          rw [hu] at g2
          refine hg.ok B L ρ2 H3 l[i] x env2 env3 σ2 _ r3 (A2.re.mono p3) hu fun σ3 re3 _ => ?_
          refine ⟨B, L, ρ2, S2, env3, ⟨R3, re3⟩, ?_⟩
          have g3 := GS.step g2 p3
          have i3 := wk.mono B ρ2 ρ2 H2 H3 p3 i2
          revert g3
          simp only
          cases f env3 S2 with
          | nx env' S' => exact fun g σ' ρ' H' p R re => ⟨ρ', S', env', ⟨R, re⟩, wk.mono B ρ2 ρ' H3 H' p i3, GS.step g p⟩
          | ct env' S' => exact fun g σ' ρ' H' p R re => ⟨ρ', S', env', ⟨R, re⟩, wk.mono B ρ2 ρ' H3 H' p i3, GS.step g p⟩
          | bk e S' => exact fun g => g
          | rt e S' => exact fun g => g
          | xc c S' => exact fun g => g
          | bad => exact fun g => g
      · have hi : i = l.length := by omega
        subst hi
        rw [List.drop_length] at g2
        exact .inl ⟨wk.stop B ρ2 H2 i2, GS.nx0 g2 A2.rh A2.re⟩
    cases r with
    | tup h r => exact ⟨_, rfl, .inr ⟨⟨_, h.sq⟩, fixd gg walk_tup ⟨h, r⟩⟩⟩
    | lst h1 h2 h3 r => exact ⟨_, rfl, .inl ⟨⟨_, .inl (.inl h3)⟩, fixd gg walk_scr ⟨.inl ⟨h1, h2, .inl h3⟩, r⟩⟩⟩
    | scr h r => exact ⟨_, rfl, .inl ⟨⟨_, h.sq⟩, fixd gg walk_scr ⟨h, r⟩⟩⟩
    | @loc n a h =>
      have gg : GS (pg X) w.W w.xm B L ρ H (match S'[n]? with
        | some (.lst l) => forV g f n (l.length + 1) 0 env S'
        | _ => .bad) D := gg
      cases q1 : S'[n]? with
      | none => rw [q1] at gg; exact gg.elim
      | some ob =>
        rw [q1] at gg
        cases ob with
        | lst l =>
          obtain ⟨vs, h1, h2⟩ := R.ob n a _ h q1
          have g1 : GS (pg X) w.W w.xm B L ρ1 H1 (forV g f n (l.length + 1) 0 env S') D := GS.step gg p
          refine ⟨a, rfl, .inl ⟨⟨vs, .inl (.inl h1)⟩, ?_⟩⟩
          refine ⟨fun i m σ H => ∃ ρ S env, At (pg X) B L ρ S env σ H ∧ ρ[n]? = some a ∧ GS (pg X) w.W w.xm B L ρ H (forV g f n m i env S) D, ⟨l.length + 1, ρ1, S', env, A1, h, g1⟩, ?_⟩
          rintro i m σ2 H2 ⟨ρ2, S2, env2, A2, hn, g2⟩
          cases m with
          | zero => exact g2.elim
          | succ m =>
            unfold forV at g2
            cases q2 : S2[n]? with
            | none => rw [q2] at g2; exact g2.elim
            | some ob =>
              rw [q2] at g2
              cases ob with
              | lst l2 =>
                simp only at g2
                obtain ⟨vs2, h3, h4⟩ := A2.rh.ob n a _ hn q2
                cases q3 : l2[i]? with
                | none =>
                  rw [q3] at g2
                  exact .inl ⟨⟨vs2, .inl (.inl h3), by rw [← h4.length]; exact List.getElem?_eq_none_iff.mp q3⟩, GS.nx0 g2 A2.rh A2.re⟩
                | some d2 =>
                  rw [q3] at g2
                  simp only at g2
                  obtain ⟨v2, e2, r2⟩ := h4.get q3
                  refine .inr ⟨⟨vs2, v2, .inl (.inl h3), e2⟩, fun σ H => ∃ ρ S env, At (pg X) B L ρ S env σ H ∧ ρ[n]? = some a ∧ GS (pg X) w.W w.xm B L ρ H (forV g f n m (i + 1) env S) D, fun σ' H' h => ⟨m, Nat.lt_succ_self m, h⟩, ?_⟩
                  rintro x H3 ⟨rfl, y⟩
                  have := y vs2 (.inl (.inl h3))
                  rw [e2] at this; cases this
                  cases hu : g d2 env2 with
                  | none => rw [hu] at g2; exact g2.elim
                  | some env3 =>
                    rw [hu] at g2
                    refine hg.ok B L ρ2 H3 d2 v2 env2 env3 σ2 _ r2 A2.re hu fun σ3 re3 _ => ?_
                    refine ⟨B, L, ρ2, S2, env3, ⟨A2.rh, re3⟩, ?_⟩
                    revert g2
                    simp only
                    cases f env3 S2 with
                    | nx env' S' => exact fun g σ' ρ' H' p R re => ⟨ρ', S', env', ⟨R, re⟩, p.at hn, GS.step g p⟩
                    | ct env' S' => exact fun g σ' ρ' H' p R re => ⟨ρ', S', env', ⟨R, re⟩, p.at hn, GS.step g p⟩
                    | bk e S' => exact fun g => g
                    | rt e S' => exact fun g => g
                    | xc c S' => exact fun g => g
                    | bad => exact fun g => g
              | _ => exact g2.elim
        | _ => exact gg.elim
    | _ => exact gg.elim
end

/-! ### a, b = x, y -/
section
variable {X : Cx} {w : Wx} {fs : FA} {i j l : Nat} {x y z : Str} {a b c : Expr} {px py pz pt pos : Pos} {kt k2 : Nat} {pt2 : Pos}
theorem ss_par2s (hc : X.calm = true) (hN : X.N.Nodup) (ha : SA X w [a, b] fs) (hij : i ≠ j) (hi : X.N[i]? = some x := by rfl) (hj : X.N[j]? = some y := by rfl)
    (hx : X.env.scope.names.lookup x = some .local := by rfl) (hy : X.env.scope.names.lookup y = some .local := by rfl)
    (hw : swappedStores [.Tuple [.Name x px, .Name y py] kt pt] (.Tuple [a, b] k2 pt2) X.env = pure (some [x, y]) := by rfl)
    (hs : swapsWithSole [.Tuple [.Name x px, .Name y py] kt pt] (.Tuple [a, b] k2 pt2) pos.line X.env = pure false := by rfl) :
    SS X w (.Assign [.Tuple [.Name x px, .Name y py] kt pt] (.Tuple [a, b] k2 pt2) pos) (sPar2 i j fs) :=
  ss_par2 (ps_par hc hN hi hj hij hx hy ha hw hs) fun _ _ _ h => h
theorem ss_par3s (hc : X.calm = true) (hN : X.N.Nodup) (ha : SA X w [a, b, c] fs) (hij : i ≠ j) (hil : i ≠ l) (hjl : j ≠ l) (hi : X.N[i]? = some x := by rfl) (hj : X.N[j]? = some y := by rfl) (hl : X.N[l]? = some z := by rfl)
    (hx : X.env.scope.names.lookup x = some .local := by rfl) (hy : X.env.scope.names.lookup y = some .local := by rfl) (hz : X.env.scope.names.lookup z = some .local := by rfl)
    (hw : swappedStores [.Tuple [.Name x px, .Name y py, .Name z pz] kt pt] (.Tuple [a, b, c] k2 pt2) X.env = pure (some [x, y, z]) := by rfl)
    (hs : swapsWithSole [.Tuple [.Name x px, .Name y py, .Name z pz] kt pt] (.Tuple [a, b, c] k2 pt2) pos.line X.env = pure false := by rfl) :
    SS X w (.Assign [.Tuple [.Name x px, .Name y py, .Name z pz] kt pt] (.Tuple [a, b, c] k2 pt2) pos) (sPar3 i j l fs) :=
  ss_par3 (ps_par3 hc hN hi hj hl hij hil hjl hx hy hz ha hw hs) fun _ _ _ h => h
end

/-! ### names of the module -/
section
variable {X : Cx} {w : Wx} {pos : Pos} {x : Str}
theorem se_globI {i : Int} (h : ∃ t, X.mg x = some (.int i t)) (hg : Gl X x := by rfl) (hd : (x == ("__debug__" : Str)) = false := by decide) : SE X w (.Name x pos) (fCon (.int i)) := by
  obtain ⟨t, h⟩ := h
  exact se_con (pe_glob (v := .int i) hg h ⟨t, rfl⟩ hd) fun _ _ _ => .int i
theorem se_globS {i : Str} (h : ∃ t, X.mg x = some (.str i t)) (hg : Gl X x := by rfl) (hd : (x == ("__debug__" : Str)) = false := by decide) : SE X w (.Name x pos) (fCon (.str i)) := by
  obtain ⟨t, h⟩ := h
  exact se_con (pe_glob (v := .str i) hg h ⟨t, rfl⟩ hd) fun _ _ _ => .str i
theorem se_ty {n : String} (hm : X.mg x = none) (hv : bootBuiltins x = some (.type n)) (hg : Gl X x := by rfl) (hn : x ≠ "__name__" := by decide) (hd : (x == ("__debug__" : Str)) = false := by decide) : SE X w (.Name x pos) (fCon (.glob (.ty n))) :=
  se_con (pe_bltn (v := .ty n) hg hm hv rfl hn hd) fun _ _ _ => .glob (by intro z; cases z)
end
/-- a def as the top has left it -/
structure Df (K : PySem.W.Frag) (mg : Str → Option Value) (x : Str) (st : Stmt) (ps : List Str) (a : Addr) (fd : FuncData) : Prop where
  F : Fun K x x st a fd
  m : mg x = some (.ref a)
  b : Binds K fd ps []

/-! ### the law's end -/
abbrev W0f : XM → Prop := fun _ => True
theorem law_end {l : PySem.W.OpenLaw} {q : Program} {loose : List Str} {XP : (Str → Option Value) → Heap → Prop} {YP : World → Heap → Prop} {d : DefRec} {K : Params → PySem.W.Frag} {x : Str} {k : Nat} {F : Fn} {xm : PySem.W.Frag → XM}
    (hn : l.most = some 63) (hdf : d.params.defaults = []) (hr : Room k callerA)
    (hY : ∀ (w : World) (h : Heap), YP w h → (K w.params).In h)
    (hF : ∀ (w : World) (mg : Str → Option Value) (fa : Addr) (h : Heap), (K w.params).In h → h.Ns mainGlobals mg → mg d.name = some (.ref fa) →
      ∃ fd : FuncData, (∀ (s : Shared) (u : Value), BindsTo s fd ⟨[u], []⟩ [(x, u)]) ∧
        ∀ base : Heap, (K w.params).In base → base.Ns mainGlobals mg → FnOk l.prog w (K w.params) mg base (L2.CX l.prog w) k fa fd [x] (spOf ⟨l.prog, w, K w.params⟩ (xm (K w.params)) 1 F))
    (hT : ∀ ns : List Int, ns.length ≤ 63 → ∃ S', F [.scr (ns.map D.int)] [] = .ok (.bl true) S') :
    PySem.W.WalkO q loose XP YP l.row.toRowW d [] (fun f vs => PySem.call f vs) := by
  refine L2.walk_of (n := 63) (k := k) (x := x) (CX := fun w => L2.CX l.prog w) (sp := fun w => spOf ⟨l.prog, w, K w.params⟩ (xm (K w.params)) 1 F) hn (by decide) hdf hr hY hF (fun w H a ns hl hO hS => ?_) fun w H s e s' h => ?_
  · obtain ⟨S', e⟩ := hT ns hl
    have rvs : ∀ ns : List Int, RVs (K w.params) [] [] H (ns.map D.int) (ns.map V.int) := fun ns => by
      induction ns with
      | nil => exact .nil
      | cons n ns ih => exact .cons (.int n) ih
    refine ⟨rfl, [], [], [], [], [.scr (ns.map D.int)], ⟨rfl, List.nodup_nil, (fun a z => nomatch z), (fun a z => nomatch z), (fun a z => nomatch z), fun n a o h => (by simp at h)⟩, .cons (.scr ?_ (rvs ns)) .nil, ?_⟩
    · exact hS.imp (fun h => ⟨(fun z => nomatch z), (fun z => nomatch z), h⟩) id
    · rw [e]
      intro v ρ' H' p R r
      cases r; rfl
  · obtain ⟨_, _, _, _, _, _, _, _, _, _, _, _, z⟩ := h
    exact z.elim
end Sf
end

section
set_option Elab.async false
set_option maxRecDepth 100000
set_option linter.all false
/-! Sf9: sorted. -/
namespace Sf
open PySem PySem.Spec PyProof.Rows L2
def insI (i : Int) : List Int → List Int
  | [] => [i]
  | j :: l => bif decide (i ≤ j) then i :: j :: l else j :: insI i l
def srtI : List Int → List Int
  | [] => []
  | i :: l => insI i (srtI l)
theorem insI_perm (i : Int) : ∀ l : List Int, (insI i l).Perm (i :: l)
  | [] => List.Perm.refl _
  | j :: l => by
    unfold insI
    cases h : decide (i ≤ j) with
    | true => exact List.Perm.refl _
    | false => exact (List.Perm.cons j (insI_perm i l)).trans (List.Perm.swap i j l)
theorem srtI_perm : ∀ l : List Int, (srtI l).Perm l
  | [] => List.Perm.refl _
  | i :: l => (insI_perm i (srtI l)).trans (List.Perm.cons i (srtI_perm l))
theorem insI_srt (i : Int) : ∀ l : List Int, l.Pairwise (· ≤ ·) → (insI i l).Pairwise (· ≤ ·)
  | [], _ => by simp [insI]
  | j :: l, h => by
    unfold insI
    have h1 := List.pairwise_cons.mp h
    cases c : decide (i ≤ j) with
    | true =>
      have c := of_decide_eq_true c
      refine List.pairwise_cons.mpr ⟨fun x hx => ?_, h⟩
      rcases List.mem_cons.mp hx with rfl | hx
      · exact c
      · have := h1.1 x hx; omega
    | false =>
      have c := of_decide_eq_false c
      refine List.pairwise_cons.mpr ⟨fun x hx => ?_, insI_srt i l h1.2⟩
      rcases List.mem_cons.mp ((insI_perm i l).mem_iff.mp hx) with rfl | hx
      · omega
      · exact h1.1 x hx
theorem srtI_srt : ∀ l : List Int, (srtI l).Pairwise (· ≤ ·)
  | [] => List.Pairwise.nil
  | i :: l => insI_srt i _ (srtI_srt l)
theorem srtI_eq {l m : List Int} (h1 : m.Perm l) (h2 : m.Pairwise (· ≤ ·)) : m = srtI l :=
  List.Perm.eq_of_pairwise (le := (· ≤ ·)) (fun a b _ _ h h' => by omega) h2 (srtI_srt l) (h1.trans (srtI_perm l).symm)
def oSorted : OpN := fun xs S => match xs with
  | [x] => match lsR x S with
    | some l => match intsD l with
      | some ns => some (.lst ((srtI ns).map D.int), S)
      | none => none
    | none => none
  | _ => none
theorem rvs_ints {K : PySem.W.Frag} {B ρ : List Addr} {H : Hp} : ∀ l : List Int, RVs K B ρ H (l.map D.int) (l.map V.int)
  | [] => .nil
  | i :: l => .cons (.int i) (rvs_ints l)
section
variable {X : Cx}
theorem ok_sorted : OkN (pg X) (rSortedI X.K) oSorted := by
  intro B L ρ S S' H ds d' xs Q R r e q
  unfold oSorted at e
  match ds, r, e with
  | [x], .cons r1 .nil, e =>
    simp only at e
    cases e1 : lsR x S with
    | none => rw [e1] at e; cases e
    | some l =>
      rw [e1] at e
      simp only at e
      cases e2 : intsD l with
      | none => rw [e2] at e; cases e
      | some ns =>
        rw [e2] at e; cases e
        obtain ⟨a, vs, rfl, hs, rv⟩ := lsR_ok R r1 e1
        have := intsD_ok rv e2
        subst this
        refine ⟨a, ns, rfl, hs, fun ns' p h1 h2 hp => ?_⟩
        rw [srtI_eq h1 h2]
        exact q _ ρ _ (Post.newV hp) (R.newV hp) (.lst (R.fresh hp).2 (R.fresh hp).1 upd_same (rvs_ints _))
end
end Sf
end

section
set_option Elab.async false
set_option maxRecDepth 100000
set_option linter.all false
/-! Sd1: dicts whose keys are tuples of any depth: their rules. -/
namespace Sf
open PySem PySem.Spec PyProof.Rows L2

/-! the key that a value is -/
mutual
inductive KIs (H : Hp) : NestedKey → V → Prop
  | non : KIs H .none .non
  | int (i : Int) : KIs H (.num i) (.int i)
  | tup {a vs ks} : H a = some (.tup vs) → KIss H ks vs → KIs H (.tup ks) (.ref a)
inductive KIss (H : Hp) : List NestedKey → List V → Prop
  | nil : KIss H [] []
  | cons {k v ks vs} : KIs H k v → KIss H ks vs → KIss H (k :: ks) (v :: vs)
end
mutual
theorem kis_rv {K : PySem.W.Frag} {B ρ : List Addr} {H : Hp} : ∀ (d : D) (v : V) (nk : NestedKey), RV K B ρ H d v → D.key d = some nk → KIs H nk v
  | .und, _, _, h, _ => by cases h
  | .non, _, _, .non, e => by cases e; exact .non
  | .bl _, _, _, _, e => by cases e
  | .int i, _, _, .int _, e => by cases e; exact .int i
  | .str _, _, _, _, e => by cases e
  | .tup l, _, nk, .tup h r, e => by
    unfold D.key at e
    cases q : D.keys l with
    | none => rw [q] at e; cases e
    | some ks => rw [q] at e; cases e; exact .tup h.2.2 (kiss_rv l _ ks r q)
  | .lst _, _, _, _, e => by cases e
  | .scr _, _, _, _, e => by cases e
  | .loc _, _, _, _, e => by cases e
  | .glob _, _, _, _, e => by cases e
theorem kiss_rv {K : PySem.W.Frag} {B ρ : List Addr} {H : Hp} : ∀ (l : List D) (vs : List V) (ks : List NestedKey), RVs K B ρ H l vs → D.keys l = some ks → KIss H ks vs
  | [], _, _, .nil, e => by unfold D.keys at e; cases e; exact .nil
  | d :: l, _, ks, .cons h t, e => by
    unfold D.keys at e
    cases q : D.key d with
    | none => rw [q] at e; cases e
    | some k =>
      cases q' : D.keys l with
      | none => rw [q, q'] at e; cases e
      | some ks' => rw [q, q'] at e; cases e; exact .cons (kis_rv d _ k h q) (kiss_rv l _ ks' t q')
end
mutual
theorem nested_of {P : Program} {w : World} {H : Hp} {h : Heap} (ok : HOk P w H h) : ∀ (nk : NestedKey) (v : V) (u : Value), KIs H nk v → RelV v u → NestedIs h nk u
  | .none, _, u, .non, r => by cases (show u = Value.none from r); exact .none
  | .num i, _, u, .int _, r => by obtain ⟨t, rfl⟩ := r; exact .int i t
  | .text _, _, _, k, _ => by cases k
  | .tup ks, _, u, .tup (a := a) (vs := vs) e t, r => by
    cases (show u = Value.ref a from r)
    obtain ⟨z, its, rv, p⟩ := ok a _ e
    obtain ⟨o, ho, hc, n, hd⟩ := id p
    exact .tup ho hc hd (by simpa using nesteds_of ok ks vs its t rv)
theorem nesteds_of {P : Program} {w : World} {H : Hp} {h : Heap} (ok : HOk P w H h) : ∀ (ks : List NestedKey) (vs : List V) (us : List Value), KIss H ks vs → Vals vs us → NestedAll h ks us
  | [], _, _, .nil, .nil => .nil
  | k :: ks, _, _, .cons h1 h2, .cons r t => .cons (nested_of ok k _ _ h1 r) (nesteds_of ok ks _ _ h2 t)
end
abbrev Ent := NestedKey × Addr × V
def KEnt (H : Hp) (e : Ent) : Prop := KIs H e.1 (.ref e.2.1) ∧ e.1.depth ≤ 8
theorem KEnt.is {P : Program} {w : World} {H : Hp} {h : Heap} (ok : HOk P w H h) {nk : NestedKey} {a : Addr} (k : KIs H nk (.ref a)) (hd : nk.depth ≤ 8) : (nestedKind P w).is h nk a :=
  ⟨nested_of ok nk _ _ k (show RelV (.ref a) (.ref a) from rfl), hd⟩
def valX (ents : List Ent) (k : NestedKey) : Option V := (ents.find? fun e => decide (e.1 = k)).map (·.2.2)
def putX (ents : List Ent) (k : NestedKey) (a : Addr) (v : V) : List Ent := if (valX ents k).isSome then ents.map (fun e => if e.1 = k then (e.1, e.2.1, v) else e) else ents ++ [(k, a, v)]
abbrev PX : Ent → NestedKey × Addr × Value → Prop := fun p q => p.1 = q.1 ∧ p.2.1 = q.2.1 ∧ RelV p.2.2 q.2.2
theorem relO_valX {k : NestedKey} : ∀ {ents : List Ent} {xs : List (NestedKey × Addr × Value)}, Paired PX ents xs → RelO (valX ents k) ((atKey xs k).map (·.2))
  | _, _, .nil => by simp [valX, atKey, RelO]
  | _, _, .cons (a := p) (b := q) (l₁ := l) (l₂ := m) r t => by
    have ih := relO_valX (k := k) t
    unfold valX atKey at ih ⊢
    rw [List.find?_cons, List.find?_cons, ← r.1]
    by_cases h : p.1 = k
    · rw [decide_eq_true h]; exact r.2.2
    · rw [decide_eq_false h]; exact ih
theorem Paired.map2 {α β γ δ : Type} {F : α → β → Prop} {G : γ → δ → Prop} {f : α → γ} {g : β → δ} : ∀ {l : List α} {m : List β}, Paired F l m → (∀ a b, F a b → G (f a) (g b)) → Paired G (l.map f) (m.map g)
  | _, _, .nil, _ => .nil
  | _, _, .cons r t, h => .cons (h _ _ r) (Paired.map2 t h)
theorem Paired.snoc {α β : Type} {F : α → β → Prop} {a : α} {b : β} (r : F a b) : ∀ {l : List α} {m : List β}, Paired F l m → Paired F (l ++ [a]) (m ++ [b])
  | _, _, .nil => .cons r .nil
  | _, _, .cons h t => .cons h (Paired.snoc r t)
theorem paired_put {k : NestedKey} {a : Addr} {v : V} {u : Value} {ents : List Ent} {xs : List (NestedKey × Addr × Value)} (h : Paired PX ents xs) (r : RelV v u) : Paired PX (putX ents k a v) (storedH xs k a u) := by
  have e := (relO_valX (k := k) h).isSome_eq
  rw [Option.isSome_map] at e
  unfold putX storedH
  rw [e]
  split
  · exact Paired.map2 h fun p q h1 => by
      unfold putAt
      rw [← h1.1]
      show PX (if p.1 = k then (p.1, p.2.1, v) else p) _
      by_cases hk : p.1 = k
      · rw [if_pos hk, if_pos hk]; exact ⟨rfl, h1.2.1, r⟩
      · rw [if_neg hk, if_neg hk]; exact h1
  · exact Paired.snoc ⟨rfl, rfl, r⟩ h
section
variable {P : Program} {w : World} {H : Hp} {h : Heap} {a : Addr} {ents : List Ent}
theorem dx_rd (ok : HOk P w H h) (e : Rd H a (dx P w a ents)) : DctRaw P w a ents h := (rd_of ok e : ObjOk P w H h a (.ext (DctRaw P w a ents))).1
theorem paired_mem {α β : Type} {F : α → β → Prop} : ∀ {l : List α} {m : List β}, Paired F l m → ∀ y ∈ m, ∃ x ∈ l, F x y
  | _, _, .nil, y, h => nomatch h
  | _, _, .cons r t, y, h => by
    rcases List.mem_cons.mp h with e | h
    · subst e; exact ⟨_, by simp, r⟩
    · obtain ⟨x, hx, q⟩ := paired_mem t y h; exact ⟨x, by simp [hx], q⟩
theorem paired_keys : ∀ {ents : List Ent} {xs : List (NestedKey × Addr × Value)}, Paired PX ents xs → ents.map (·.1) = xs.map (·.1)
  | _, _, .nil => rfl
  | _, _, .cons r t => by rw [List.map_cons, List.map_cons, r.1, paired_keys t]
theorem dx_at (ok : HOk P w H h) (e : Rd H a (dx P w a ents)) (ke : ∀ x ∈ ents, KEnt H x) : ents.length ≤ sizeLine ∧ (a == sysModules) = false ∧ ∃ xs, Paired PX ents xs ∧ h.DictOfH (nestedKind P w) a xs := by
  obtain ⟨z, y, nd, xs, r, o, es, ep, h1, h2, h3, h4⟩ := dx_rd ok e
  refine ⟨z, y, xs, r, o, es, ep, h1, h2, h3, h4, fun q hq => ?_, by rw [← paired_keys r]; exact nd⟩
  obtain ⟨p, hp, e1, e2, _⟩ := paired_mem r q hq
  have k := ke p hp
  rw [← e1, ← e2]
  exact KEnt.is ok k.1 k.2
theorem dx_new {H' : Hp} {h' : Heap} {xs : List (NestedKey × Addr × Value)} (z : ents.length ≤ sizeLine) (hd : (a == sysModules) = false) (r : Paired PX ents xs) (dd : h'.DictOfH (nestedKind P w) a xs) : ObjOk P w H' h' a (dx P w a ents) := by
  obtain ⟨o, es, ep, h1, h2, h3, h4, _, h5⟩ := dd
  refine ⟨⟨z, hd, by rw [paired_keys r]; exact h5, xs, r, o, es, ep, h1, h2, h3, h4⟩, ⟨o, h1⟩, fun g1 g2 hg k => ?_⟩
  obtain ⟨z, y, nd, xs, r, o, es, ep, h1, h2, h3, h4⟩ := hg
  exact ⟨z, y, nd, xs, r, o, es, ep, k o h1, h2, h3, h4⟩
end
theorem length_putX (ents : List Ent) (k : NestedKey) (b : Addr) (v : V) : (putX ents k b v).length ≤ ents.length + 1 := by
  unfold putX; split <;> simp
/-- what the dict at a holds at the key y -/
def XGet (P : Program) (w : World) (H : Hp) (a : Addr) (y : V) (r : Option V) : Prop :=
  ∃ ents nk b, Rd H a (dx P w a ents) ∧ (∀ x ∈ ents, KEnt H x) ∧ y = .ref b ∧ KEnt H (nk, b, .non) ∧ r = valX ents nk
def XPut (P : Program) (w : World) (H : Hp) (a : Addr) (y v : V) (H' : Hp) : Prop :=
  ∃ ents nk b, H a = some (dx P w a ents) ∧ (∀ x ∈ ents, KEnt H x) ∧ y = .ref b ∧ KEnt H (nk, b, .non) ∧ ents.length < sizeLine ∧ H' = upd H a (dx P w a (putX ents nk b v))
section
variable {X : Cx} {pins : List (Addr × Obj)} {σ : L2.St} {H : Hp} {s : Shared} {a : Addr} {y v d : V} {u r : Value} {o : Option V} {A : Around} {E : Value → Shared → Prop}
theorem room_x (hu : A.units + 9 < cLine) : (nestedKind X.prog X.w).room A.in1 := by show A.units + 1 + 8 < cLine; omega
theorem xd_getItem {Q : Value → Shared → Prop} (hu : A.units + 9 < cLine) (I : Inv X pins σ H s) (g : XGet X.prog X.w H a y (some v)) (ry : RelV y u) (h : ∀ w' s', Inv X pins σ H s' → RelV v w' → Q w' s') :
    wpAny (model X.prog X.w) A (getItem (.ref a) u) Q E s := by
  obtain ⟨ents, nk, b, e, ke, ey, kb, l⟩ := g
  subst ey
  cases (show u = Value.ref b from ry)
  obtain ⟨z, hd, xs, rel, dd⟩ := dx_at I.hok e ke
  obtain ⟨w', hw, rw'⟩ := RelO.some_of (v := v) (o := (atKey xs nk).map (·.2)) (by rw [l]; exact relO_valX rel)
  obtain ⟨p, hp, hp2⟩ := Option.map_eq_some_iff.mp hw
  refine wpAny_getItem_heap (room_x hu) (KEnt.is I.hok kb.1 kb.2) dd hp ?_
  rw [hp2]
  exact h w' _ (I.tok _) rw'
theorem xd_in {Q : Value → Shared → Prop} (hu : A.units + 9 < cLine) (I : Inv X pins σ H s) (g : XGet X.prog X.w H a y o) (ry : RelV y u) (h : ∀ s', Inv X pins σ H s' → Q (.bool o.isSome) s') :
    wpAny (model X.prog X.w) A (compareOp .In u (.ref a)) Q E s := by
  obtain ⟨ents, nk, b, e, ke, ey, kb, l⟩ := g
  subst ey
  cases (show u = Value.ref b from ry)
  obtain ⟨z, hd, xs, rel, dd⟩ := dx_at I.hok e ke
  refine wpAny_in_heap (room_x hu) (KEnt.is I.hok kb.1 kb.2) hd dd ?_
  have q := (relO_valX (k := nk) rel).isSome_eq
  rw [Option.isSome_map] at q
  rw [← q, ← l]
  exact h _ (I.tok _)
theorem xd_notIn {Q : Value → Shared → Prop} (hu : A.units + 9 < cLine) (I : Inv X pins σ H s) (g : XGet X.prog X.w H a y o) (ry : RelV y u) (h : ∀ s', Inv X pins σ H s' → Q (.bool (!o.isSome)) s') :
    wpAny (model X.prog X.w) A (compareOp .NotIn u (.ref a)) Q E s := by
  obtain ⟨ents, nk, b, e, ke, ey, kb, l⟩ := g
  subst ey
  cases (show u = Value.ref b from ry)
  obtain ⟨z, hd, xs, rel, dd⟩ := dx_at I.hok e ke
  refine wpAny_notIn_heap (room_x hu) (KEnt.is I.hok kb.1 kb.2) hd dd ?_
  have q := (relO_valX (k := nk) rel).isSome_eq
  rw [Option.isSome_map] at q
  rw [← q, ← l]
  exact h _ (I.tok _)
theorem xd_get2 {Q : Value → Shared → Prop} (hu : A.units + 9 < cLine) (I : Inv X pins σ H s) (g : XGet X.prog X.w H a y o) (ry : RelV y u) (rd : RelV d r) (h : ∀ w' s', Inv X pins σ H s' → RelV (o.getD d) w' → Q w' s') :
    wpAny (model X.prog X.w) A (call (.builtin "dict.get") [.ref a, u, r]) Q E s := by
  obtain ⟨ents, nk, b, e, ke, ey, kb, l⟩ := g
  subst ey
  cases (show u = Value.ref b from ry)
  obtain ⟨z, hd, xs, rel, dd⟩ := dx_at I.hok e ke
  refine call_meetsIn PySem.F.slot_dict_get dd.typeIs PySem.F.entry_dict_get (PySem.F.args_dict_get_3 _ _ _) (meetsH_dict_get_default (nestedKind X.prog X.w) a b hd r) ⟨room_x hu, nk, xs, KEnt.is I.hok kb.1 kb.2, dd, h _ _ (I.tok _) ?_⟩
  rw [l]
  exact (relO_valX (k := nk) rel).getD rd
theorem xd_setItem {H' : Hp} {Q : Unit → Shared → Prop} (hu : A.units + 9 < cLine) (I : Inv X pins σ H s) (g : XPut X.prog X.w H a y v H') (ry : RelV y u) (rv : RelV v r) (h : ∀ s', Inv X pins σ H' s' → Q () s') :
    wpAny (model X.prog X.w) A (setItem (.ref a) u r) Q E s := by
  obtain ⟨ents, nk, b, e, ke, ey, kb, l, eH⟩ := g
  subst ey eH
  cases (show u = Value.ref b from ry)
  obtain ⟨z, hd, xs, rel, dd⟩ := dx_at I.hok (.inl e) ke
  have hz : xs.length ≤ sizeLine := by rw [← Paired.length rel]; exact z
  have hl : (putX ents nk b v).length ≤ sizeLine := by have := length_putX ents nk b v; omega
  refine wpAny_setItem_heap (hsz := hz) (room_x hu) (KEnt.is I.hok kb.1 kb.2) dd fun h' dd' hs => h _ ?_
  obtain ⟨q, es, ep, hq, _⟩ := id dd'
  exact d_write I (by rw [e]; exact True.intro) hs ⟨q, hq⟩ (dx_new hl hd (paired_put rel rv) dd')
theorem xd_typeIs (I : Inv X pins σ H s) {ents : List Ent} (e : Rd H a (dx X.prog X.w a ents)) : s.TypeIs (.ref a) "dict" ∧ (∀ b, Value.ref a = .ref b → ∃ ob, s.heap.get? b = some ob ∧ ob.dict = none) ∧ (a == sysModules) = false := by
  obtain ⟨z, y, nd, xs, r, o, es, ep, h1, h2, h3, h4⟩ := dx_rd I.hok e
  refine ⟨⟨o, h1, h2.1⟩, fun b q => ?_, y⟩
  cases q
  exact ⟨o, h1, h2.2.1⟩
/-- {} -/
theorem dx_empty {P : Program} {w : World} {H : Hp} (h : Heap) (hb : sysModules < h.objs.size) : ObjOk P w H (h.push { cls := .type "dict", data := .dict #[] }) h.objs.size (dx P w h.objs.size []) :=
  dx_new (Nat.zero_le _) (beq_eq_false_iff_ne.mpr (Ne.symm (Nat.ne_of_lt hb))) .nil (Heap.DictOfH.new h)
end
end Sf
end

section
set_option Elab.async false
set_option maxRecDepth 100000
set_option linter.all false
/-! Sd2: dicts of the store: reading, writing. -/
namespace Sf
open PySem PySem.Spec PyProof.Rows L2

def keyEq (a b : D) : Bool := match D.key a, D.key b with
  | some x, some y => NestedKey.beq x y
  | _, _ => false
def isT : D → Bool
  | .tup _ => true
  | _ => false
def keyOk (k : D) : Bool := isT k && (match D.key k with
  | some nk => Nat.ble nk.depth 8
  | none => false)
def getX (kvs : List (D × D)) (k : D) : Option D := (kvs.find? fun p => keyEq p.1 k).map (·.2)
def putXD (kvs : List (D × D)) (k v : D) : List (D × D) := bif (getX kvs k).isSome then kvs.map (fun p => bif keyEq p.1 k then (p.1, v) else p) else kvs ++ [(k, v)]
def getI (kvs : List (Int × D)) (k : Int) : Option D := (kvs.find? fun p => decide (p.1 = k)).map (·.2)
def putI (kvs : List (Int × D)) (k : Int) (v : D) : List (Int × D) := bif (getI kvs k).isSome then kvs.map (fun p => bif decide (p.1 = k) then (p.1, v) else p) else kvs ++ [(k, v)]
theorem keyOk_ok {k : D} (h : keyOk k = true) : ∃ l nk, k = .tup l ∧ D.key k = some nk ∧ nk.depth ≤ 8 := by
  unfold keyOk at h
  rw [Bool.and_eq_true] at h
  obtain ⟨h1, h2⟩ := h
  cases k with
  | tup l =>
    cases q : D.key (.tup l) with
    | none => rw [q] at h2; cases h2
    | some nk => rw [q] at h2; exact ⟨l, nk, rfl, rfl, Nat.le_of_ble_eq_true h2⟩
  | _ => cases h1
section
variable {G : Pg} {B L ρ : List Addr} {S S' : Sto} {H : Hp}
theorem rks_kent : ∀ {kvs : List (D × D)} {ents : List Ent}, RKs G B ρ H kvs ents → ∀ e ∈ ents, KEnt H e
  | _, _, .nil, e, h => nomatch h
  | _, _, .cons h1 h2 h3 _ r, e, h => by
    rcases List.mem_cons.mp h with q | h
    · subst q; exact ⟨kis_rv _ _ _ h2 h1, h3⟩
    · exact rks_kent r e h
theorem rks_val {k : D} {nk : NestedKey} (hk : D.key k = some nk) : ∀ {kvs : List (D × D)} {ents : List Ent}, RKs G B ρ H kvs ents →
    (getX kvs k = none ∧ valX ents nk = none) ∨ ∃ d v, getX kvs k = some d ∧ valX ents nk = some v ∧ RV G.K B ρ H d v
  | _, _, .nil => .inl ⟨rfl, rfl⟩
  | _, _, .cons (k := k') (d := d) (nk := nk') (ka := ka) (v := v) h1 h2 h3 h4 r => by
    have ih := rks_val hk r
    have e : keyEq k' k = decide (nk' = nk) := by unfold keyEq; rw [h1, hk]; exact (NestedKey.decide_eq nk' nk).symm
    unfold getX valX at ih ⊢
    rw [List.find?_cons, List.find?_cons]
    show (_ ∧ _) ∨ _
    rw [e]
    by_cases c : nk' = nk
    · simp only [c, decide_true]; exact .inr ⟨d, v, rfl, rfl, h4⟩
    · simp only [c, decide_false]; exact ih
theorem rks_map {k d : D} {nk : NestedKey} {v : V} (hk : D.key k = some nk) (rv : RV G.K B ρ H d v) : ∀ {kvs : List (D × D)} {ents : List Ent}, RKs G B ρ H kvs ents →
    RKs G B ρ H (kvs.map fun p => bif keyEq p.1 k then (p.1, d) else p) (ents.map fun e => if e.1 = nk then (e.1, e.2.1, v) else e)
  | _, _, .nil => .nil
  | _, _, .cons (k := k') (d := d') (nk := nk') (ka := ka) (v := v') h1 h2 h3 h4 r => by
    have e : keyEq k' k = decide (nk' = nk) := by unfold keyEq; rw [h1, hk]; exact (NestedKey.decide_eq nk' nk).symm
    rw [List.map_cons, List.map_cons]
    simp only [e]
    by_cases c : nk' = nk
    · rw [decide_eq_true c, if_pos c]; exact .cons h1 h2 h3 rv (rks_map hk rv r)
    · rw [decide_eq_false c, if_neg c]; exact .cons h1 h2 h3 h4 (rks_map hk rv r)
theorem rks_app : ∀ {kvs kvs' : List (D × D)} {ents ents' : List Ent}, RKs G B ρ H kvs ents → RKs G B ρ H kvs' ents' → RKs G B ρ H (kvs ++ kvs') (ents ++ ents')
  | _, _, _, _, .nil, s => s
  | _, _, _, _, .cons h1 h2 h3 h4 r, s => .cons h1 h2 h3 h4 (rks_app r s)
theorem rks_put {k d : D} {nk : NestedKey} {ka : Addr} {v : V} (hk : D.key k = some nk) (rk : RV G.K B ρ H k (.ref ka)) (hd : nk.depth ≤ 8) (rv : RV G.K B ρ H d v) {kvs : List (D × D)} {ents : List Ent} (r : RKs G B ρ H kvs ents) :
    RKs G B ρ H (putXD kvs k d) (putX ents nk ka v) := by
  unfold putXD putX
  rcases rks_val hk r with ⟨h1, h2⟩ | ⟨d', v', h1, h2, _⟩
  · rw [h1, h2]
    exact rks_app r (.cons hk rk hd rv .nil)
  · rw [h1, h2]
    exact rks_map hk rv r
theorem rks_len : ∀ {kvs : List (D × D)} {ents : List Ent}, RKs G B ρ H kvs ents → kvs.length = ents.length
  | _, _, .nil => rfl
  | _, _, .cons _ _ _ _ r => by rw [List.length_cons, List.length_cons, rks_len r]
theorem ris_val {i : Int} : ∀ {kvs : List (Int × D)} {ents : List (L2.Key × V)}, RIs G B ρ H kvs ents →
    (getI kvs i = none ∧ valV ents (Sum.inl i) = none) ∨ ∃ d v, getI kvs i = some d ∧ valV ents (Sum.inl i) = some v ∧ RV G.K B ρ H d v
  | _, _, .nil => .inl ⟨rfl, rfl⟩
  | _, _, .cons (i := j) (d := d) (v := v) h4 r => by
    have ih := ris_val (i := i) r
    unfold getI valV at ih ⊢
    rw [List.find?_cons, List.find?_cons]
    have e : decide ((Sum.inl j : L2.Key) = Sum.inl i) = decide (j = i) := by simp
    show (_ ∧ _) ∨ _
    simp only [e]
    by_cases c : j = i
    · simp only [c, decide_true]; exact .inr ⟨d, v, rfl, rfl, h4⟩
    · simp only [c, decide_false]; exact ih
theorem ris_map {i : Int} {d : D} {v : V} (rv : RV G.K B ρ H d v) : ∀ {kvs : List (Int × D)} {ents : List (L2.Key × V)}, RIs G B ρ H kvs ents →
    RIs G B ρ H (kvs.map fun p => bif decide (p.1 = i) then (p.1, d) else p) (ents.map fun e => if e.1 = Sum.inl i then (e.1, v) else e)
  | _, _, .nil => .nil
  | _, _, .cons (i := j) (d := d') (v := v') h4 r => by
    rw [List.map_cons, List.map_cons]
    by_cases c : j = i
    · simp only [c, decide_true, if_true]; exact .cons rv (ris_map rv r)
    · have c' : ¬ ((Sum.inl j : L2.Key) = Sum.inl i) := fun z => c (by cases z; rfl)
      simp only [c, c', decide_false, if_false]; exact .cons h4 (ris_map rv r)
theorem ris_app : ∀ {kvs kvs' : List (Int × D)} {ents ents' : List (L2.Key × V)}, RIs G B ρ H kvs ents → RIs G B ρ H kvs' ents' → RIs G B ρ H (kvs ++ kvs') (ents ++ ents')
  | _, _, _, _, .nil, s => s
  | _, _, _, _, .cons h4 r, s => .cons h4 (ris_app r s)
theorem any_valV {κ : Type} [DecidableEq κ] (kvs : List (κ × V)) (k : κ) : (kvs.any fun kv => decide (kv.1 = k)) = (valV kvs k).isSome := by
  unfold valV
  induction kvs with
  | nil => rfl
  | cons p l ih =>
    rw [List.any_cons, List.find?_cons]
    by_cases c : p.1 = k
    · simp [c]
    · simp only [c, decide_false, Bool.false_or]; exact ih
theorem ris_put {i : Int} {d : D} {v : V} (rv : RV G.K B ρ H d v) {kvs : List (Int × D)} {ents : List (L2.Key × V)} (r : RIs G B ρ H kvs ents) : RIs G B ρ H (putI kvs i d) (putK ents (Sum.inl i) v) := by
  unfold putI putK
  rw [any_valV]
  rcases ris_val (i := i) r with ⟨h1, h2⟩ | ⟨d', v', h1, h2, _⟩
  · rw [h1, h2]; exact ris_app r (.cons rv .nil)
  · rw [h1, h2]; exact ris_map rv r
theorem ris_len : ∀ {kvs : List (Int × D)} {ents : List (L2.Key × V)}, RIs G B ρ H kvs ents → kvs.length = ents.length
  | _, _, .nil => rfl
  | _, _, .cons _ r => by rw [List.length_cons, List.length_cons, ris_len r]
theorem lk_rd {lk : Bool} {a : Addr} {u : HO} (h : LkAt L H lk a u) : Rd H a u := by
  unfold LkAt at h
  split at h
  · obtain ⟨_, od, e⟩ := h; exact .inr ⟨od, e⟩
  · exact .inl h
end
end Sf
end

section
set_option Elab.async false
set_option maxRecDepth 100000
set_option linter.all false
/-! Sd3: dicts: displays, d[k], k in d, d.get(k, x), d[k] = v. -/
namespace Sf
open PySem PySem.Spec PyProof.Rows L2
theorem RH.addX {G : Pg} {B ρ L : List Addr} {H : Hp} {S : Sto} {p : Addr} {ob : Ob} (R : RH G (p :: B) L ρ H S) (hb : p ∉ B) (q : RO G B L (ρ ++ [p]) H p ob) : RH G B L (ρ ++ [p]) H (S ++ [ob]) := by
  have hB : ∀ a, a ∈ B ∨ a ∈ ρ ++ [p] → a ∈ p :: B ∨ a ∈ ρ := fun a z => z.elim (fun z => .inl (List.mem_cons_of_mem _ z)) fun z => (List.mem_append.mp z).elim .inr fun z => .inl (by simp at z; rw [z]; exact List.mem_cons_self)
  have hp : ∀ (n : Nat) (a : Addr), ρ[n]? = some a → (ρ ++ [p])[n]? = some a := fun n a z => by rw [List.getElem?_append_left (List.getElem?_eq_some_iff.mp z).1]; exact z
  refine ⟨by simp [R.len], ?_, fun a ha => (List.mem_append.mp ha).elim (fun z q => R.dj a z (List.mem_cons_of_mem _ q)) fun z => by simp at z; rw [z]; exact hb, fun b hb => R.avo b (List.mem_cons_of_mem _ hb), R.lk, fun n a o h1 h2 => ?_⟩
  · rw [List.nodup_append]
    refine ⟨R.nd, by simp, fun a ha b hb => ?_⟩
    simp at hb; subst hb
    rintro rfl
    exact R.dj _ ha List.mem_cons_self
  · by_cases hn : n < ρ.length
    · rw [List.getElem?_append_left hn] at h1
      rw [List.getElem?_append_left (by rw [← R.len]; exact hn)] at h2
      exact (R.ob n a o h1 h2).re hB hp
    · have hn' : n = ρ.length := by
        have := (List.getElem?_eq_some_iff.mp h1).1
        simp at this; omega
      subst hn'
      rw [List.getElem?_append_right (Nat.le_refl _)] at h1
      rw [R.len, List.getElem?_append_right (Nat.le_refl _)] at h2
      simp at h1 h2
      subst h1; subst h2
      exact q
section
variable {prog : Program} {w : World} {K : Type} [DecidableEq K] {knd : HeapKind prog w K} {A : Around} {E : Value → Shared → Prop} {s : Shared} {env : Env}
/-- a display: the entries with their keys' places -/
theorem wpAny_Dict_pairsH1 {keys : List (Option Expr)} {values : List Expr} {pos : Pos} {Q : Value → Shared → Prop} (hu : knd.room A)
    (hall : keys.all (·.isSome) = true) (hl : keys.length = values.length) (h0 : keys ≠ []) (hlen : keys.length ≤ 15)
    (h : wpAny (model prog w) A (evalPairs (pairTrees keys values env pos)) (fun vs s₁ => ∃ ps, CarriesH knd s₁.heap vs ps ∧ s₁.heap.DictOfH knd s.heap.objs.size [] ∧
      ∀ h' tk, h'.DictOfH knd s.heap.objs.size (storedAllH [] ps) → Heap.SameBut s.heap.objs.size s₁.heap h' → Q (.ref s.heap.objs.size) { s₁ with heap := h', toks := tk }) E
      { s with heap := s.heap.push { cls := .type "dict", data := .dict #[] } }) :
    wpAny (model prog w) A (eval (.Dict keys values pos) env) Q E s := by
  have hn := pairTrees_length keys values env pos hall hl
  have hne : pairTrees keys values env pos ≠ [] := fun he => by rw [he] at hn; exact h0 (List.length_eq_zero_iff.mp hn.symm)
  rw [arm_eval_Dict, zip_pairTrees keys values env pos hall hl, dictDisplay_pairs _ hne (by rw [hn]; omega)]
  exact wpAny_bind (wpAny_standAt (wpAny_bind (wpAny_subDictH (knd := knd) (Q := fun d s' => wpAny (model prog w) A (pure (Value.ref d)) Q E s') hu (by rw [hn]; exact hlen)
    (wpAny_mono h (fun vs s₁ h₁ => by obtain ⟨ps, hc, hm, hq⟩ := h₁; exact ⟨ps, hc, hm, fun h' tk a b => wpAny_pure (hq h' tk a b)⟩) fun _ _ e => e))))
end
def fDct0 : FE := fun _ S => .ok (.loc S.length) (S ++ [.dct false []])
def fDki0 : FE := fun _ S => .ok (.loc S.length) (S ++ [.dki false []])
def fDct1 (fk fv : FE) : FE := fun env S => match fk env S with
  | .ok k S1 => (match fv env S1 with
    | .ok v S2 => bif keyOk k then .ok (.loc S2.length) (S2 ++ [.dct false [(k, v)]]) else .bad
    | _ => .bad)
  | _ => .bad
section
variable {X : Cx} {w : Wx} {pos : Pos}
theorem loc_last {ρ : List Addr} {S : Sto} {p : Addr} (h : ρ.length = S.length) : (ρ ++ [p])[S.length]? = some p := by
  rw [← h, List.getElem?_append_right (Nat.le_refl _)]; simp
theorem se_dct0 : SE X w (.Dict [] [] pos) fDct0 := ⟨fun pins s σ H Q I ⟨B, L, ρ, S, env, A, g⟩ =>
  wpAny_Dict_empty ⟨.ref s.heap.objs.size, _, I.laid (a := s.heap.objs.size) (o := dx X.prog X.w s.heap.objs.size []) (t' := s.toks) (fun _ _ q => Heap.get?_push_of_some _ q) (Nat.le_refl _) (dx_empty s.heap I.big), rfl, by
    have hp := I.hok.fresh (Nat.le_refl s.heap.objs.size)
    exact g _ (ρ ++ [s.heap.objs.size]) _ (Post.newL hp) (A.rh.newL hp ⟨[], upd_same, .nil⟩) (.loc (loc_last A.rh.len))⟩⟩
theorem se_dki0 : SE X w (.Dict [] [] pos) fDki0 := ⟨fun pins s σ H Q I ⟨B, L, ρ, S, env, A, g⟩ =>
  wpAny_Dict_empty ⟨.ref s.heap.objs.size, _, I.laid (a := s.heap.objs.size) (o := .dK []) (t' := s.toks) (fun _ _ q => Heap.get?_push_of_some _ q) (Nat.le_refl _) (dk_empty s.heap I.big), rfl, by
    have hp := I.hok.fresh (Nat.le_refl s.heap.objs.size)
    exact g _ (ρ ++ [s.heap.objs.size]) _ (Post.newL hp) (A.rh.newL hp ⟨[], upd_same, .nil⟩) (.loc (loc_last A.rh.len))⟩⟩
theorem se_dct1 {k v : Expr} {fk fv : FE} (hu : X.A.units + 9 < cLine) (hk : SE X w k fk) (hv : SE X w v fv) : SE X w (.Dict [some k] [v] pos) (fDct1 fk fv) := by
  refine ⟨fun pins s σ H Q I ⟨B, L, ρ, S, env, A, g⟩ => ?_⟩
  have hp := I.hok.fresh (Nat.le_refl s.heap.objs.size)
  have I1 := I.laid (a := s.heap.objs.size) (o := dx X.prog X.w s.heap.objs.size []) (h' := s.heap.push { cls := .type "dict", data := .dict #[] }) (t' := s.toks) (fun _ _ q => Heap.get?_push_of_some _ q) (Nat.le_refl _) (dx_empty s.heap I.big)
  generalize hpe : s.heap.objs.size = p at *
  have hpB : p ∉ B := (A.rh.fresh hp).2
  have hpρ : p ∉ ρ := (A.rh.fresh hp).1
  have hpL : p ∉ L := fun z => by obtain ⟨o, u, q⟩ := A.rh.lk p z; rw [hp] at q; cases q
  have A1 : At (pg X) (p :: B) L ρ S env σ (upd H p (dx X.prog X.w p [])) := ⟨A.rh.addB hp, A.re.addB hp⟩
  have P1 : Post L ρ H ρ (upd H p (dx X.prog X.w p [])) := Post.newV hp
  unfold fDct1 at g
  cases h1 : fk env S with
  | exc c S1 => rw [h1] at g; exact g.elim
  | bad => rw [h1] at g; exact g.elim
  | ok dk S1 =>
  rw [h1] at g
  simp only at g
  cases h2 : fv env S1 with
  | exc c S2 => rw [h2] at g; exact g.elim
  | bad => rw [h2] at g; exact g.elim
  | ok dv S2 =>
  rw [h2] at g
  simp only at g
  cases h3 : keyOk dk with
  | false => rw [h3] at g; exact g.elim
  | true =>
  rw [h3] at g
  obtain ⟨lk, nk, rfl, hnk, hd⟩ := keyOk_ok h3
  refine wpAny_Dict_pairsH1 (knd := nestedKind X.prog X.w) (show X.A.units + 8 < cLine by omega) (by simp) rfl (by simp) (by simp) ?_
  rw [hpe]
  refine pairTrees_cons_walk (thn (hk.run pins _ σ _ (fun x H' => ∃ ρ', Post L ρ (upd H p (dx X.prog X.w p [])) ρ' H' ∧ RH (pg X) (p :: B) L ρ' H' S1 ∧ RV X.K (p :: B) ρ' H' (.tup lk) x) I1 ⟨p :: B, L, ρ, S, env, A1, ?_⟩) fun u1 s1 ⟨x, H1, I2, r1, ρ1, P2, R2, rk⟩ =>
    thn (hv.run pins s1 σ H1 (fun y H' => ∃ ρ', Post L ρ1 H1 ρ' H' ∧ RH (pg X) (p :: B) L ρ' H' S2 ∧ RV X.K (p :: B) ρ' H' dv y) I2 ⟨p :: B, L, ρ1, S1, env, A1.step P2 R2, ?_⟩) fun u2 s2 ⟨y, H2, I3, r2, ρ2, P3, R3, rv⟩ => pairTrees_nil_walk ?_)
  · rw [h1]; exact fun v ρ' H' p' R r => ⟨ρ', p', R, r⟩
  · rw [h2]; exact fun v ρ' H' p' R r => ⟨ρ', p', R, r⟩
  · have rk2 := rk.mono P3
    cases rk2 with
    | @tup ka vs _ hka hks =>
    cases (show u1 = Value.ref ka from r1)
    have kb : KEnt H2 (nk, ka, y) := ⟨kis_rv _ _ _ (.tup hka hks) hnk, hd⟩
    have e2 : H2 p = some (dx X.prog X.w p []) := by
      have hp1 : p ∉ ρ1 := fun z => R2.dj p z List.mem_cons_self
      exact P3.ext p _ (.inl hp1) (P2.ext p _ (.inl hpρ) upd_same)
    have hp2 : p ∉ ρ2 := fun z => R3.dj p z List.mem_cons_self
    obtain ⟨z, hsy, xs, rel, dd⟩ := dx_at I3.hok (.inl e2) (fun e he => nomatch he)
    cases rel
    refine ⟨[(nk, ka, u2)], ⟨rfl, rfl, KEnt.is I3.hok kb.1 kb.2, trivial⟩, dd, fun h' tk dd' hs => ?_⟩
    obtain ⟨q, es, ep, hq, _⟩ := id dd'
    have I4 := d_write (t' := tk) I3 (a := p) (ob := dx X.prog X.w p [(nk, ka, y)]) (by rw [e2]; exact True.intro) hs ⟨q, hq⟩ (dx_new (by show 1 ≤ sizeLine; rw [sizeLine_eq]; omega) hsy (.cons ⟨rfl, rfl, r2⟩ .nil) dd')
    refine ⟨.ref p, _, I4, rfl, g _ (ρ2 ++ [p]) _ ?_ ((R3.av (u := dx X.prog X.w p [(nk, ka, y)]) List.mem_cons_self hpL).addX hpB ⟨[(nk, ka, y)], upd_same, ?_⟩) (.loc (loc_last R3.len))⟩
    · have P := (P1.trans P2).trans P3
      refine ⟨fun a u ha hu => ?_, ?_, fun a ha => ?_⟩
      · rw [upd_ne (ne_of_none hu hp)]; exact P.ext a u ha hu
      · obtain ⟨t, e⟩ := P.pre; exact ⟨t ++ [p], by rw [e, List.append_assoc]⟩
      · rcases List.mem_append.mp ha with ha | ha
        · exact P.new a ha
        · simp at ha; rw [ha]; exact .inr hp
    · have hB : ∀ a, a ∈ B ∨ a ∈ ρ2 ++ [p] → a ∈ p :: B ∨ a ∈ ρ2 := fun a z => z.elim (fun z => .inl (List.mem_cons_of_mem _ z)) fun z => (List.mem_append.mp z).elim .inr fun z => .inl (by simp at z; rw [z]; exact List.mem_cons_self)
      have hp' : ∀ (n : Nat) (a : Addr), ρ2[n]? = some a → (ρ2 ++ [p])[n]? = some a := fun n a z => by rw [List.getElem?_append_left (List.getElem?_eq_some_iff.mp z).1]; exact z
      exact .cons hnk (((RV.tup hka hks).av List.mem_cons_self).re hB hp') hd ((rv.av List.mem_cons_self).re hB hp') .nil
end
end Sf
end

section
set_option Elab.async false
set_option maxRecDepth 100000
set_option linter.all false
/-! Sd4: dicts: d[k], k in d, d.get(k, x), d[k] = v, d != {}. -/
namespace Sf
open PySem PySem.Spec PyProof.Rows L2
def findD (o k : D) (S : Sto) : Option (Option D) := match o with
  | .loc n => match S[n]? with
    | some (.dct _ kvs) => bif keyOk k then some (getX kvs k) else none
    | some (.dki _ kvs) => (match k with
      | .int i => some (getI kvs i)
      | _ => none)
    | _ => none
  | _ => none
def oGetX : Op2 := fun x y S => match findD x y S with
  | some (some d) => some (d, S)
  | _ => none
def oInX : Op2 := fun y x S => match findD x y S with
  | some r => some (.bl r.isSome, S)
  | none => none
def oNinX : Op2 := fun y x S => match findD x y S with
  | some r => some (.bl (!r.isSome), S)
  | none => none
def XDG (P : Program) (w : World) (H : Hp) (a : Addr) (y : V) (r : Option V) : Prop := XGet P w H a y r ∨ DGet H a y r
theorem findD_ok {G : Pg} {B L ρ : List Addr} {S : Sto} {H : Hp} {o k : D} {x y : V} {r : Option D} (R : RH G B L ρ H S) (ro : RV G.K B ρ H o x) (rk : RV G.K B ρ H k y) (e : findD o k S = some r) :
    ∃ a v, x = .ref a ∧ XDG G.P G.w H a y v ∧ ((r = none ∧ v = none) ∨ ∃ d u, r = some d ∧ v = some u ∧ RV G.K B ρ H d u) := by
  cases ro with
  | @loc n a h =>
    unfold findD at e
    simp only at e
    cases q : S[n]? with
    | none => rw [q] at e; cases e
    | some ob =>
      rw [q] at e
      cases ob with
      | dct lk kvs =>
        simp only at e
        cases hk : keyOk k with
        | false => rw [hk] at e; cases e
        | true =>
          rw [hk] at e; cases e
          obtain ⟨l, nk, rfl, hnk, hd⟩ := keyOk_ok hk
          obtain ⟨ents, h1, h2⟩ := R.ob n a _ h q
          cases rk with
          | @tup ka vs _ hka hks =>
          refine ⟨a, valX ents nk, rfl, .inl ⟨ents, nk, ka, lk_rd h1, rks_kent h2, rfl, ⟨kis_rv _ _ _ (.tup hka hks) hnk, hd⟩, rfl⟩, ?_⟩
          rcases rks_val hnk h2 with ⟨e1, e2⟩ | ⟨d, v, e1, e2, r⟩
          · exact .inl ⟨e1, e2⟩
          · exact .inr ⟨d, v, e1, e2, r⟩
      | dki lk kvs =>
        simp only at e
        cases rk with
        | int i =>
          cases e
          obtain ⟨ents, h1, h2⟩ := R.ob n a _ h q
          refine ⟨a, valV ents (Sum.inl i), rfl, .inr (.inl ⟨ents, Sum.inl i, lk_rd h1, rfl, rfl⟩), ?_⟩
          rcases ris_val (i := i) h2 with ⟨e1, e2⟩ | ⟨d, v, e1, e2, r⟩
          · exact .inl ⟨e1, e2⟩
          · exact .inr ⟨d, v, e1, e2, r⟩
        | _ => cases e
      | _ => cases e
  | _ => cases e
section
variable {X : Cx} {pins : List (Addr × Obj)} {σ : L2.St} {H : Hp} {s : Shared} {a : Addr} {y v d : V} {u r : Value} {o : Option V} {A : Around} {E : Value → Shared → Prop}
theorem xdg_type (I : Inv X pins σ H s) (g : XDG X.prog X.w H a y o) : s.TypeIs (.ref a) "dict" := by
  rcases g with ⟨ents, nk, b, e, _⟩ | g
  · exact (xd_typeIs I e).1
  · exact dict_typeIs I g
theorem xdg_get {Q : Value → Shared → Prop} (hu : A.units + 9 < cLine) (I : Inv X pins σ H s) (g : XDG X.prog X.w H a y (some v)) (ry : RelV y u) (h : ∀ w' s', Inv X pins σ H s' → RelV v w' → Q w' s') :
    wpAny (model X.prog X.w) A (getItem (.ref a) u) Q E s := g.elim (fun g => xd_getItem hu I g ry h) fun g => d_getItem (by omega) I g ry h
abbrev rIxX (P : Program) (w : World) : R2 := fun x y H Q => ∃ a v, x = .ref a ∧ XDG P w H a y (some v) ∧ Q v H
theorem ix_x (hu : X.A.units + 9 < cLine) : IxR X (rIxX X.prog X.w) := by
  intro value slice pins s σ H x y v u Q I rx ry h hs
  obtain ⟨a, r, rfl, g, q⟩ := h
  cases (show v = Value.ref a from rx)
  exact tail_any (xdg_type I g) slot_dict_getitem.lookup (xdg_get hu I g ry fun w' s' I' r' => ⟨r, H, I', r', q⟩) hs
theorem op_inX (hu : X.A.units + 9 < cLine) : OpR X (compareOp .In) (fun y x H Q => ∃ a o, x = .ref a ∧ XDG X.prog X.w H a y o ∧ Q (.bl o.isSome) H) := by
  intro pins s σ H y x v u Q I ry rx h
  obtain ⟨a, o, rfl, g, q⟩ := h
  cases (show u = Value.ref a from rx)
  exact g.elim (fun g => xd_in hu I g ry fun s' I' => ⟨.bl o.isSome, H, I', rfl, q⟩) fun g => d_in (by omega) I g ry fun s' I' => ⟨.bl o.isSome, H, I', rfl, q⟩
theorem op_ninX (hu : X.A.units + 9 < cLine) : OpR X (compareOp .NotIn) (fun y x H Q => ∃ a o, x = .ref a ∧ XDG X.prog X.w H a y o ∧ Q (.bl (!o.isSome)) H) := by
  intro pins s σ H y x v u Q I ry rx h
  obtain ⟨a, o, rfl, g, q⟩ := h
  cases (show u = Value.ref a from rx)
  exact g.elim (fun g => xd_notIn hu I g ry fun s' I' => ⟨.bl (!o.isSome), H, I', rfl, q⟩) fun g => d_notIn (by omega) I g ry fun s' I' => ⟨.bl (!o.isSome), H, I', rfl, q⟩
theorem ok_getX : Ok2 (pg X) (rIxX X.prog X.w) oGetX := by
  intro B L ρ S S' H d1 d2 d' x y Q R r1 r2 e q
  unfold oGetX at e
  cases h : findD d1 d2 S with
  | none => rw [h] at e; cases e
  | some r =>
    rw [h] at e
    cases r with
    | none => cases e
    | some d =>
      cases e
      obtain ⟨a, v, rfl, g, k⟩ := findD_ok R r1 r2 h
      rcases k with ⟨k, _⟩ | ⟨d2, u, k1, k2, k3⟩
      · cases k
      · cases k1; subst k2
        exact ⟨a, u, rfl, g, here q R k3⟩
theorem ok_inX : Ok2 (pg X) (fun y x H Q => ∃ a o, x = .ref a ∧ XDG X.prog X.w H a y o ∧ Q (.bl o.isSome) H) oInX := by
  intro B L ρ S S' H d1 d2 d' x y Q R r1 r2 e q
  unfold oInX at e
  cases h : findD d2 d1 S with
  | none => rw [h] at e; cases e
  | some r =>
    rw [h] at e
    cases e
    obtain ⟨a, v, rfl, g, k⟩ := findD_ok R r2 r1 h
    refine ⟨a, v, rfl, g, ?_⟩
    have e : v.isSome = r.isSome := by rcases k with ⟨k1, k2⟩ | ⟨d2, u, k1, k2, k3⟩ <;> rw [k1, k2] <;> rfl
    rw [e]; exact here q R (.bl _)
theorem ok_ninX : Ok2 (pg X) (fun y x H Q => ∃ a o, x = .ref a ∧ XDG X.prog X.w H a y o ∧ Q (.bl (!o.isSome)) H) oNinX := by
  intro B L ρ S S' H d1 d2 d' x y Q R r1 r2 e q
  unfold oNinX at e
  cases h : findD d2 d1 S with
  | none => rw [h] at e; cases e
  | some r =>
    rw [h] at e
    cases e
    obtain ⟨a, v, rfl, g, k⟩ := findD_ok R r2 r1 h
    refine ⟨a, v, rfl, g, ?_⟩
    have e : v.isSome = r.isSome := by rcases k with ⟨k1, k2⟩ | ⟨d2, u, k1, k2, k3⟩ <;> rw [k1, k2] <;> rfl
    rw [e]; exact here q R (.bl _)
end
/-! d[k] = v -/
def setX (o k v : D) (S : Sto) : Option Sto := match o with
  | .loc n => match S[n]? with
    | some (.dct false kvs) => bif keyOk k && fitS kvs.length then some (S.set n (.dct false (putXD kvs k v))) else none
    | some (.dki false kvs) => (match k with
      | .int i => bif fitS kvs.length then some (S.set n (.dki false (putI kvs i v))) else none
      | _ => none)
    | _ => none
  | _ => none
def sAsgX (fe fo fi : FE) : FS := fun env S => (fe env S).bindS fun x S1 => (fo env S1).bindS fun o S2 => (fi env S2).bindS fun i S3 => match setX o i x S3 with
  | some S4 => .nx env S4
  | none => .bad
abbrev rSetX (P : Program) (w : World) : TSet := fun x y v H Q => ∃ a H', x = .ref a ∧ (XPut P w H a y v H' ∨ DPut H a y v H') ∧ Q H'
theorem set_x {X : Cx} (hu : X.A.units + 9 < cLine) : PSet X (rSetX X.prog X.w) := by
  intro pins s σ H o i v ov iv u Q I ro ri rv h
  obtain ⟨a, H', rfl, g, q⟩ := h
  cases (show ov = Value.ref a from ro)
  exact g.elim (fun g => xd_setItem hu I g ri rv fun s' I' => ⟨H', I', q⟩) fun g => d_setItem (by omega) I g ri rv fun s' I' => ⟨H', I', q⟩
theorem setX_ok {G : Pg} {B L ρ : List Addr} {S S' : Sto} {H : Hp} {o i v : D} {ov iv vv : V} {Q : Hp → Prop} (R : RH G B L ρ H S) (ro : RV G.K B ρ H o ov) (ri : RV G.K B ρ H i iv) (rv : RV G.K B ρ H v vv) (e : setX o i v S = some S')
    (q : ∀ H', Post L ρ H ρ H' → RH G B L ρ H' S' → Q H') : rSetX G.P G.w ov iv vv H Q := by
  cases ro with
  | @loc n a h =>
    unfold setX at e
    simp only at e
    cases q1 : S[n]? with
    | none => rw [q1] at e; cases e
    | some ob =>
      rw [q1] at e
      cases ob with
      | dct lk kvs =>
        cases lk with
        | true => cases e
        | false =>
        simp only at e
        cases hk : keyOk i && fitS kvs.length with
        | false => rw [hk] at e; cases e
        | true =>
          rw [hk] at e; cases e
          rw [Bool.and_eq_true] at hk
          obtain ⟨l, nk, rfl, hnk, hd⟩ := keyOk_ok hk.1
          obtain ⟨ents, h1, h2⟩ := R.ob n a _ h q1
          have h1 : H a = some (dx G.P G.w a ents) := h1
          have hl : a ∉ L := R.notL h1 fun _ _ z => nomatch z
          cases ri with
          | @tup ka vs _ hka hks =>
          refine ⟨a, _, rfl, .inl ⟨ents, nk, ka, h1, rks_kent h2, rfl, ⟨kis_rv _ _ _ (.tup hka hks) hnk, hd⟩, by rw [← rks_len h2]; exact fitS_lt hk.2, rfl⟩, ?_⟩
          exact q _ (Post.wr h hl) (R.wr h hl ⟨_, upd_same, RKs.mono (Post.wr (L := L) h hl) (rks_put hnk (.tup hka hks) hd rv h2)⟩)
      | dki lk kvs =>
        cases lk with
        | true => cases e
        | false =>
        simp only at e
        cases ri with
        | int j =>
          simp only at e
          cases hk : fitS kvs.length with
          | false => rw [hk] at e; cases e
          | true =>
            rw [hk] at e; cases e
            obtain ⟨ents, h1, h2⟩ := R.ob n a _ h q1
            have h1 : H a = some (.dK ents) := h1
            have hl : a ∉ L := R.notL h1 fun _ _ z => nomatch z
            refine ⟨a, _, rfl, .inr (.inl ⟨ents, Sum.inl j, h1, rfl, by rw [← ris_len h2]; exact fitS_lt hk, rfl⟩), ?_⟩
            exact q _ (Post.wr h hl) (R.wr h hl ⟨_, upd_same, RIs.mono (Post.wr (L := L) h hl) (ris_put rv h2)⟩)
        | _ => cases e
      | _ => cases e
  | _ => cases e
section
variable {X : Cx} {w : Wx} {e : Expr} {fe fo fi : FE} {pos : Pos}
theorem ss_setX {o i : Expr} {opos : Pos} (hu : X.A.units + 9 < cLine) (he : SE X w e fe) (ho : SE X w o fo) (hi : SE X w i fi) (hs : swapsWithSole [.Subscript o i opos] e pos.line X.env = pure false := by rfl) (hw : swappedStores [.Subscript o i opos] e X.env = pure none := by rfl)
    (h1 : (assignEach [.Subscript o i opos] X.env).map (·.2) = [assign (.Subscript o i opos) X.env] := by rfl)
    (ha : ∀ v, assign (.Subscript o i opos) X.env v = (do
      let ov ← holding [v] (eval o X.env)
      let iv ← holding [v, ov] (eval i X.env)
      standAt opos
      holding [v, ov, iv] (setItem ov iv v)
      release [v, ov, iv] []) := by intro _; rfl) : SS X w (.Assign [.Subscript o i opos] e pos) (sAsgX fe fo fi) :=
  PS.imp (ps_asg he (pg_sub ho hi (set_x hu) ha) hs hw h1) fun D σ H ⟨B, L, ρ, S, env, A, g⟩ =>
    tE_mono (tE_bindS3 A g) fun x H1 h => tE_mono h fun y H2 h => tE_mono h fun z H3 ⟨B, L, ρ, S, d, d', d'', A, r, r', r'', g⟩ => by
      cases hu : setX d' d'' d S with
      | none => rw [hu] at g; exact g.elim
      | some S' =>
        rw [hu] at g
        exact setX_ok A.rh r' r'' r hu fun H' p R => g σ ρ H' p R (A.re.mono p)
end
end Sf
end

section
set_option Elab.async false
set_option maxRecDepth 100000
set_option linter.all false
/-! Sd5: a dict is locked while its keys are walked. -/
namespace Sf
open PySem PySem.Spec PyProof.Rows L2 RZ
theorem RO.reL {G : Pg} {B L L' ρ : List Addr} {H : Hp} {a : Addr} {o : Ob} (k : a ∈ L → a ∈ L') (h : RO G B L ρ H a o) : RO G B L' ρ H a o := by
  cases o with
  | lst ds => exact h
  | dct lk kvs =>
    obtain ⟨ents, e, r⟩ := h
    refine ⟨ents, ?_, r⟩
    unfold LkAt at e ⊢
    split at e
    · rename_i hl; rw [if_pos hl]; exact ⟨k e.1, e.2⟩
    · rename_i hl; rw [if_neg hl]; exact e
  | dki lk kvs =>
    obtain ⟨ents, e, r⟩ := h
    refine ⟨ents, ?_, r⟩
    unfold LkAt at e ⊢
    split at e
    · rename_i hl; rw [if_pos hl]; exact ⟨k e.1, e.2⟩
    · rename_i hl; rw [if_neg hl]; exact e
  | ins fs => exact h
section
variable {G : Pg} {B L ρ ρ' : List Addr} {S S' : Sto} {H H' : Hp} {a : Addr} {n : Nat} {ob ob' : Ob} {od : Obj} {u : HO}
theorem nd_ne (R : RH G B L ρ H S) {m : Nat} {b : Addr} (h : ρ[n]? = some a) (h2 : ρ[m]? = some b) (hm : m ≠ n) : b ≠ a := by
  rintro rfl
  obtain ⟨l1, e1⟩ := List.getElem?_eq_some_iff.mp h
  obtain ⟨l2, e2⟩ := List.getElem?_eq_some_iff.mp h2
  exact hm ((List.getElem_inj R.nd).mp (e2.trans e1.symm))
theorem RH.lockX (R : RH G B L ρ H S) (h : ρ[n]? = some a) (hl : a ∉ L) (q : RO G B (a :: L) ρ (upd H a (.frz od u)) a ob') : RH G B (a :: L) ρ (upd H a (.frz od u)) (S.set n ob') where
  len := by simp [R.len]
  nd := R.nd
  dj := R.dj
  avo := fun b hb => let ⟨w, e⟩ := R.avo b hb; ⟨w, by rw [upd_ne (by rintro rfl; exact R.dj _ (List.mem_of_getElem? h) hb)]; exact e⟩
  lk := fun b hb => by
    by_cases e : b = a
    · subst e; exact ⟨_, _, upd_same⟩
    · obtain ⟨o, w, q⟩ := R.lk b ((List.mem_cons.mp hb).resolve_left e)
      exact ⟨o, w, by rw [upd_ne e]; exact q⟩
  ob := fun m b o h1 h2 => by
    by_cases hm : m = n
    · subst hm
      rw [h] at h1; cases h1
      have hn : m < S.length := by rw [← R.len]; exact (List.getElem?_eq_some_iff.mp h).1
      rw [List.getElem?_set_self hn] at h2; cases h2
      exact q
    · rw [List.getElem?_set_ne (Ne.symm hm)] at h2
      have hne := nd_ne R h h1 hm
      exact ((R.ob m b o h1 h2).mono (Post.wr h hl) (upd_ne hne)).reL (List.mem_cons_of_mem _)
theorem RH.unlockX (R : RH G B (a :: L) ρ H S) (h : ρ[n]? = some a) (hl : a ∉ L) (q : RO G B L ρ (upd H a u) a ob) : RH G B L ρ (upd H a u) (S.set n ob) where
  len := by simp [R.len]
  nd := R.nd
  dj := R.dj
  avo := fun b hb => let ⟨w, e⟩ := R.avo b hb; ⟨w, by rw [upd_ne (by rintro rfl; exact R.dj _ (List.mem_of_getElem? h) hb)]; exact e⟩
  lk := fun b hb => by
    obtain ⟨o, w, q⟩ := R.lk b (List.mem_cons_of_mem _ hb)
    exact ⟨o, w, by rw [upd_ne (by rintro rfl; exact hl hb)]; exact q⟩
  ob := fun m b o h1 h2 => by
    by_cases hm : m = n
    · subst hm
      rw [h] at h1; cases h1
      have hn : m < S.length := by rw [← R.len]; exact (List.getElem?_eq_some_iff.mp h).1
      rw [List.getElem?_set_self hn] at h2; cases h2
      exact q
    · rw [List.getElem?_set_ne (Ne.symm hm)] at h2
      have hne := nd_ne R h h1 hm
      exact ((R.ob m b o h1 h2).reL (L' := L) (fun z => (List.mem_cons.mp z).resolve_left hne)).mono (Post.wr h hl) (upd_ne hne)
/-- behind the lock: as if nothing had been locked -/
theorem post_unlock (h : ρ[n]? = some a) (hl : a ∉ L) (p : Post (a :: L) ρ (upd H a (.frz od u)) ρ' H') : H' a = some (.frz od u) ∧ Post L ρ H ρ' (upd H' a u) := by
  have ha := List.mem_of_getElem? h
  refine ⟨p.ext a _ (.inr List.mem_cons_self) upd_same, fun b w hb e => ?_, p.pre, fun b hb => ?_⟩
  · have hne : b ≠ a := by rintro rfl; exact hb.elim (fun z => z ha) hl
    rw [upd_ne hne]
    exact p.ext b w (hb.imp id (List.mem_cons_of_mem _)) (by rw [upd_ne hne]; exact e)
  · rcases p.new b hb with z | z
    · exact .inl z
    · by_cases e : b = a
      · subst e; exact .inl ha
      · rw [upd_ne e] at z; exact .inr z
end
def lkO : Ob → Option Ob
  | .dct false kvs => some (.dct true kvs)
  | .dki false kvs => some (.dki true kvs)
  | _ => none
def unSR (n : Nat) (ob : Ob) : SR → SR
  | .nx e S => .nx e (S.set n ob)
  | .bk e S => .bk e (S.set n ob)
  | .ct e S => .ct e (S.set n ob)
  | .rt d S => .rt d (S.set n ob)
  | _ => .bad
def unO {α : Type} (n : Nat) (ob : Ob) : Out α → Out α
  | .ok d S => .ok d (S.set n ob)
  | _ => .bad
def sLock (i : Nat) (f : FS) : FS := fun env S => match env[i]? with
  | some (.loc n) => (match S[n]? with
    | some ob => (match lkO ob with
      | some ob' => unSR n ob (f env (S.set n ob'))
      | none => .bad)
    | none => .bad)
  | _ => .bad
def fLock (i : Nat) (f : FE) : FE := fun env S => match env[i]? with
  | some (.loc n) => (match S[n]? with
    | some ob => (match lkO ob with
      | some ob' => unO n ob (f env (S.set n ob'))
      | none => .bad)
    | none => .bad)
  | _ => .bad
/-- what is needed to lock -/
theorem lock_at {G : Pg} {B L ρ : List Addr} {S : Sto} {H : Hp} {n : Nat} {a : Addr} {ob ob' : Ob} (R : RH G B L ρ H S) (h : ρ[n]? = some a) (q : S[n]? = some ob) (e : lkO ob = some ob') :
    a ∉ L ∧ ∃ u, H a = some u ∧ Mut (some u) ∧ (∀ od, RH G B (a :: L) ρ (upd H a (.frz od u)) (S.set n ob')) ∧ ∀ (ρ' : List Addr) (H' : Hp) (S' : Sto), ρ'[n]? = some a → Post L ρ H ρ' (upd H' a u) → RH G B (a :: L) ρ' H' S' → RH G B L ρ' (upd H' a u) (S'.set n ob) := by
  have ro := R.ob n a ob h q
  cases ob with
  | dct lk kvs =>
    cases lk with
    | true => cases e
    | false =>
      cases e
      obtain ⟨ents, h1, h2⟩ := ro
      have h1 : H a = some (dx G.P G.w a ents) := h1
      have hl : a ∉ L := R.notL h1 fun _ _ z => nomatch z
      refine ⟨hl, _, h1, trivial, fun od => R.lockX h hl ⟨ents, ?_, RKs.mono (Post.wr (L := L) h hl) h2⟩, fun ρ' H' S' h' p R' => R'.unlockX h' hl ⟨ents, ?_, RKs.mono p h2⟩⟩
      · unfold LkAt; rw [if_pos rfl]; exact ⟨List.mem_cons_self, od, upd_same⟩
      · exact upd_same
  | dki lk kvs =>
    cases lk with
    | true => cases e
    | false =>
      cases e
      obtain ⟨ents, h1, h2⟩ := ro
      have h1 : H a = some (.dK ents) := h1
      have hl : a ∉ L := R.notL h1 fun _ _ z => nomatch z
      refine ⟨hl, _, h1, trivial, fun od => R.lockX h hl ⟨ents, ?_, RIs.mono (Post.wr (L := L) h hl) h2⟩, fun ρ' H' S' h' p R' => R'.unlockX h' hl ⟨ents, ?_, RIs.mono p h2⟩⟩
      · unfold LkAt; rw [if_pos rfl]; exact ⟨List.mem_cons_self, od, upd_same⟩
      · exact upd_same
  | _ => cases e
section
variable {X : Cx} {w : Wx} {st : Stmt} {e : Expr} {f : FS} {fe : FE}
theorem ss_lock {i : Nat} (h : SS X w st f) : SS X w st (sLock i f) := PS.imp (ps_lock h) fun D σ H ⟨B, L, ρ, S, env, A, g⟩ => by
  unfold sLock at g
  cases h1 : env[i]? with
  | none => rw [h1] at g; exact g.elim
  | some d =>
  rw [h1] at g
  cases d with
  | loc n =>
    simp only at g
    rcases A.re.at' i _ h1 with z | ⟨v, _, rv⟩
    · cases z
    cases rv with
    | @loc _ a hn =>
    cases h2 : S[n]? with
    | none => rw [h2] at g; exact g.elim
    | some ob =>
    rw [h2] at g
    simp only at g
    cases h3 : lkO ob with
    | none => rw [h3] at g; exact g.elim
    | some ob' =>
    rw [h3] at g
    simp only at g
    obtain ⟨hl, u, hu, mu, lk, un⟩ := lock_at A.rh hn h2 h3
    refine ⟨a, u, hu, mu, fun od => ⟨B, a :: L, ρ, S.set n ob', env, ⟨lk od, A.re.mono (Post.wr (L := L) hn hl)⟩, ?_⟩⟩
    revert g
    have key : ∀ (ρ' : List Addr) (H' : Hp) (S' : Sto), Post (a :: L) ρ (upd H a (.frz od u)) ρ' H' → RH (pg X) B (a :: L) ρ' H' S' → H' a = some (.frz od u) ∧ Post L ρ H ρ' (upd H' a u) ∧ RH (pg X) B L ρ' (upd H' a u) (S'.set n ob) ∧ Post L ρ' H' ρ' (upd H' a u) := fun ρ' H' S' p R => by
      obtain ⟨p1, p2⟩ := post_unlock hn hl p
      exact ⟨p1, p2, un ρ' H' S' (p.at hn) p2 R, Post.wr (p.at hn) hl⟩
    cases f env (S.set n ob') with
    | nx e S' => exact fun g σ' ρ' H' p R re => let ⟨k1, k2, k3, k4⟩ := key ρ' H' S' p R; ⟨k1, g σ' ρ' _ k2 k3 (re.mono k4)⟩
    | bk e S' => exact fun g σ' ρ' H' p R re => let ⟨k1, k2, k3, k4⟩ := key ρ' H' S' p R; ⟨k1, g σ' ρ' _ k2 k3 (re.mono k4)⟩
    | ct e S' => exact fun g σ' ρ' H' p R re => let ⟨k1, k2, k3, k4⟩ := key ρ' H' S' p R; ⟨k1, g σ' ρ' _ k2 k3 (re.mono k4)⟩
    | rt d S' => exact fun g v ρ' H' p R rv => let ⟨k1, k2, k3, k4⟩ := key ρ' H' S' p R; ⟨k1, g v ρ' _ k2 k3 (rv.mono k4)⟩
    | xc c S' => exact fun g => g.elim
    | bad => exact fun g => g.elim
  | _ => exact g.elim
theorem se_lock {i : Nat} (h : SE X w e fe) : SE X w e (fLock i fe) := PE.imp (pe_lock h) fun σ H Q ⟨B, L, ρ, S, env, A, g⟩ => by
  unfold fLock at g
  cases h1 : env[i]? with
  | none => rw [h1] at g; exact g.elim
  | some d =>
  rw [h1] at g
  cases d with
  | loc n =>
    simp only at g
    rcases A.re.at' i _ h1 with z | ⟨v, _, rv⟩
    · cases z
    cases rv with
    | @loc _ a hn =>
    cases h2 : S[n]? with
    | none => rw [h2] at g; exact g.elim
    | some ob =>
    rw [h2] at g
    simp only at g
    cases h3 : lkO ob with
    | none => rw [h3] at g; exact g.elim
    | some ob' =>
    rw [h3] at g
    simp only at g
    obtain ⟨hl, u, hu, mu, lk, un⟩ := lock_at A.rh hn h2 h3
    refine ⟨a, u, hu, mu, fun od => ⟨B, a :: L, ρ, S.set n ob', env, ⟨lk od, A.re.mono (Post.wr (L := L) hn hl)⟩, ?_⟩⟩
    revert g
    have key : ∀ (ρ' : List Addr) (H' : Hp) (S' : Sto), Post (a :: L) ρ (upd H a (.frz od u)) ρ' H' → RH (pg X) B (a :: L) ρ' H' S' → H' a = some (.frz od u) ∧ Post L ρ H ρ' (upd H' a u) ∧ RH (pg X) B L ρ' (upd H' a u) (S'.set n ob) ∧ Post L ρ' H' ρ' (upd H' a u) := fun ρ' H' S' p R => by
      obtain ⟨p1, p2⟩ := post_unlock hn hl p
      exact ⟨p1, p2, un ρ' H' S' (p.at hn) p2 R, Post.wr (p.at hn) hl⟩
    cases fe env (S.set n ob') with
    | ok d S' => exact fun g v ρ' H' p R rv => let ⟨k1, k2, k3, k4⟩ := key ρ' H' S' p R; ⟨k1, g v ρ' _ k2 k3 (rv.mono k4)⟩
    | exc c S' => exact fun g => g.elim
    | bad => exact fun g => g.elim
  | _ => exact g.elim
end
end Sf
end

section
set_option Elab.async false
set_option maxRecDepth 100000
set_option linter.all false
/-! Sd6: for k in d; d.get(k, x); d != {}. -/
namespace Sf
open PySem PySem.Spec PyProof.Rows L2 RZ
theorem paired_get' {α β : Type} {G : α → β → Prop} {l₁ : List α} {l₂ : List β} (h : Paired G l₁ l₂) {i : Nat} {a : α} (e : l₁[i]? = some a) : ∃ b, l₂[i]? = some b ∧ G a b := paired_get h e
theorem frzX {X : Cx} {pins : List (Addr × Obj)} {σ : L2.St} {H : Hp} {s : Shared} {d : Addr} {o : Obj} {ents : List Ent} (I : Inv X pins σ H s) (h : H d = some (.frz o (dx X.prog X.w d ents))) :
    (d == sysModules) = false ∧ s.heap.get? d = some o ∧ o.ExactDict ∧ ∃ (es : Array DictEntry) (ep : Nat), o.data = .dict es ep ∧ es.size = ents.length ∧
      ∀ (i : Nat) (e : Ent), ents[i]? = some e → ∃ en : DictEntry, es[i]? = some en ∧ en.key = .ref e.2.1 := by
  obtain ⟨hd, ⟨z, hs, nd, xs, pr, o', es, ep, ho, hx, hdt, he⟩, _⟩ := I.hok d _ h
  rw [hd] at ho
  cases ho
  refine ⟨hs, hd, hx, es, ep, hdt, ?_, fun i e hi => ?_⟩
  · have l1 : es.size = xs.length := size_of_entries he
    have l2 : ents.length = xs.length := Paired.length pr
    omega
  · obtain ⟨b, hb, e1, e2, _⟩ := paired_get pr hi
    have q := entry_at he i
    rw [hb] at q
    exact ⟨_, q, by rw [e2]; rfl⟩
/-- the keys of the locked dict at d -/
def ItX (P : Program) (w : World) (d : Addr) (o : Obj) (ents : List Ent) : It :=
  ⟨fun i H => H d = some (.frz o (dx P w d ents)) ∧ i < ents.length, fun i H x H' => H' = H ∧ ∃ e, ents[i]? = some e ∧ x = .ref e.2.1, fun i H => H d = some (.frz o (dx P w d ents)) ∧ ents.length ≤ i⟩
theorem turn_keysX {P : Program} {w : World} {K : PySem.W.Frag} {tg : Expr} {d : Addr} {o : Obj} {es : Array DictEntry} {ep : Nat} {ents : List Ent} (it : Addr) (hod : o.data = .dict es ep) : Turn P w K tg (ItX P w d o ents) [it] it (fun i h => h.IsKeyIter it d i ents.length ep) where
  mem := by simp
  obj := fun i h st b hb => by
    have e : b = it := by simpa using hb
    subst e
    obtain ⟨oi, e, c, dd⟩ := st
    exact ⟨oi, e, fun v z => by rw [dd] at z; cases z⟩
  keep := fun i h h' st k => st.at fun oi e => k it (by simp) oi e
  item := by
    intro X hP hw hK hc i pins s σ H E I hf st hg
    subst hP hw hK
    obtain ⟨hd, hi⟩ := hg
    obtain ⟨f0, f1, f2, f3, f4, f5⟩ := hf it (by simp)
    obtain ⟨hs, hgd, hx, es', ep', hdt, hsz, ent⟩ := frzX I hd
    obtain ⟨rfl, rfl⟩ := dict_ep hod hdt
    obtain ⟨e, he⟩ : ∃ p, ents[i]? = some p := ⟨ents[i], List.getElem?_eq_getElem hi⟩
    obtain ⟨en, hen, hkey⟩ := ent i e he
    refine next_key_item st hgd hdt hsz hen fun h' st' sb => ?_
    have I1 : Inv X pins σ H { s with heap := h' } := I.turned (t' := s.toks) (fun b ob hb e => (sb.2 b hb).trans e) f0 f1 f3 f4 f5
    obtain ⟨oi, e', c, dd⟩ := id st'
    exact ⟨en.key, rfl, go_of (s := { s with heap := h' }) e' c dd (by decide) ⟨.ref e.2.1, H, I1, hkey, ⟨rfl, e, he, rfl⟩, st', fun b hb => (hf b hb).1⟩⟩
  done := by
    intro X hP hw hK hc i pins s σ H E I hf st hg
    subst hP hw hK
    obtain ⟨hd, hi⟩ := hg
    obtain ⟨f0, f1, f2, f3, f4, f5⟩ := hf it (by simp)
    obtain ⟨hs, hgd, hx, es', ep', hdt, hsz, ent⟩ := frzX I hd
    obtain ⟨rfl, rfl⟩ := dict_ep hod hdt
    exact next_key_end (I.ok.hd hc) st hgd hdt hsz hi fun h' eb => ⟨rfl, I.turned (t' := s.toks) (fun b ob hb e => eb b ob hb e) f0 f1 f3 f4 f5⟩
  self := fun A i s Q E st h => by
    refine wpAny_pyIter_slot st.typeIs F.slot_dict_keyiterator_iter (wpAny_call_entry F.slot_dict_keyiterator_iter st.typeIs F.entry_dict_keyiterator_iter ?_ (F.args_dict_keyiterator_iter_1 _))
    show wpAny _ _ (ret (.ref it)) _ _ s
    exact wpAny_pure ⟨_, rfl, "dict_keyiterator", _, st.typeIs, F.slot_dict_keyiterator_next.lookup, h⟩
def iKeysX (P : Program) (w : World) (td : TE) : TI := fun σ H R => td σ H fun x H1 => ∃ d o, x = .ref d ∧ ((∃ kvs, H1 d = some (.frz o (.dK kvs)) ∧ R (Itk d o kvs) H1) ∨ ∃ ents, H1 d = some (.frz o (dx P w d ents)) ∧ R (ItX P w d o ents) H1)
theorem pi_keysX {X : Cx} {tg e : Expr} {td : TE} (he : PE X e td) : PI X tg e (iKeysX X.prog X.w td) := by
  refine ⟨fun pins s σ H R I h => ?_⟩
  refine thn (he.run pins s σ H _ I h) fun u s1 ⟨x, H1, I1, rx, d, o, ex, q⟩ => ?_
  subst ex
  obtain rfl : u = Value.ref d := rx
  rcases q with ⟨kvs, hd, q⟩ | ⟨ents, hd, q⟩
  · obtain ⟨hs, hgd, hx, es, ep, vs, hdt, hsz, kv, hm⟩ := I1.frzK hd
    refine iter_keys hs hgd hx hdt (pi_one (tk := s1.toks) I1 _ (turn_keys _ hdt) ⟨_, Heap.get?_push_size _ rfl, rfl, ?_⟩ q)
    rw [hsz] <;> rfl
  · obtain ⟨hs, hgd, hx, es, ep, hdt, hsz, ent⟩ := frzX I1 hd
    refine iter_keys hs hgd hx hdt (pi_one (tk := s1.toks) I1 _ (turn_keysX _ hdt) ⟨_, Heap.get?_push_size _ rfl, rfl, ?_⟩ q)
    rw [hsz] <;> rfl
def iKeysD (fe : FE) : FA := fun env S => (fe env S).bind fun o S1 => match o with
  | .loc n => (match S1[n]? with
    | some (.dct true kvs) => .ok (kvs.map (·.1)) S1
    | some (.dki true kvs) => .ok (kvs.map fun p => .int p.1) S1
    | _ => .bad)
  | _ => .bad
theorem rks_get {G : Pg} {B ρ : List Addr} {H : Hp} : ∀ {kvs : List (D × D)} {ents : List Ent} {i : Nat} {d : D} {e : Ent}, RKs G B ρ H kvs ents → (kvs.map (·.1))[i]? = some d → ents[i]? = some e → RV G.K B ρ H d (.ref e.2.1)
  | _, _, i, _, _, .nil, h, _ => by simp at h
  | _, _, 0, _, _, .cons h1 h2 h3 h4 r, h, h' => by simp at h h'; subst h; subst h'; exact h2
  | _, _, i + 1, _, _, .cons h1 h2 h3 h4 r, h, h' => rks_get (i := i) r (by simpa using h) (by simpa using h')
theorem ris_get {G : Pg} {B ρ : List Addr} {H : Hp} : ∀ {kvs : List (Int × D)} {ents : List (L2.Key × V)} {i : Nat} {d : D} {k : L2.Key} {v : V}, RIs G B ρ H kvs ents → (kvs.map fun p => D.int p.1)[i]? = some d → ents[i]? = some (k, v) → RV G.K B ρ H d (kV k)
  | _, _, i, _, _, _, .nil, h, _ => by simp at h
  | _, _, 0, _, _, _, .cons h4 r, h, h' => by
    simp at h h'; subst h; obtain ⟨rfl, rfl⟩ := h'; exact .int _
  | _, _, i + 1, _, _, _, .cons h4 r, h, h' => ris_get (i := i) r (by simpa using h) (by simpa using h')
theorem RKs.addB' {G : Pg} {B ρ : List Addr} {H : Hp} {p : Addr} {o : HO} (hn : H p = none) : ∀ {kvs : List (D × D)} {ents : List Ent}, RKs G B ρ H kvs ents → RKs G (p :: B) ρ (upd H p o) kvs ents
  | _, _, .nil => .nil
  | _, _, .cons h1 h2 h3 h4 r => .cons h1 (h2.addB hn) h3 (h4.addB hn) (RKs.addB' hn r)
theorem RKs.av' {G : Pg} {B ρ : List Addr} {H : Hp} {p : Addr} {o : HO} (hp : p ∈ B) : ∀ {kvs : List (D × D)} {ents : List Ent}, RKs G B ρ H kvs ents → RKs G B ρ (upd H p o) kvs ents
  | _, _, .nil => .nil
  | _, _, .cons h1 h2 h3 h4 r => .cons h1 (h2.av hp) h3 (h4.av hp) (RKs.av' hp r)
theorem RIs.addB' {G : Pg} {B ρ : List Addr} {H : Hp} {p : Addr} {o : HO} (hn : H p = none) : ∀ {kvs : List (Int × D)} {ents : List (L2.Key × V)}, RIs G B ρ H kvs ents → RIs G (p :: B) ρ (upd H p o) kvs ents
  | _, _, .nil => .nil
  | _, _, .cons h4 r => .cons (h4.addB hn) (RIs.addB' hn r)
theorem RIs.av' {G : Pg} {B ρ : List Addr} {H : Hp} {p : Addr} {o : HO} (hp : p ∈ B) : ∀ {kvs : List (Int × D)} {ents : List (L2.Key × V)}, RIs G B ρ H kvs ents → RIs G B ρ (upd H p o) kvs ents
  | _, _, .nil => .nil
  | _, _, .cons h4 r => .cons (h4.av hp) (RIs.av' hp r)
section
variable {G : Pg} {L : List Addr}
theorem walk_keysX {d : Addr} {o : Obj} {ents : List Ent} {kvs : List (D × D)} (hd : d ∈ L) : WalkOk G L (ItX G.P G.w d o ents) (kvs.map (·.1)) (fun B ρ H => d ∉ B ∧ H d = some (.frz o (dx G.P G.w d ents)) ∧ RKs G B ρ H kvs ents) where
  mono := fun B ρ ρ' H H' p ⟨h0, h1, h2⟩ => ⟨h0, p.ext d _ (.inr hd) h1, h2.mono p⟩
  addB := fun B ρ H p u hn ⟨h0, h1, h2⟩ => ⟨fun z => (List.mem_cons.mp z).elim (fun z => by rw [z, hn] at h1; cases h1) h0, by rw [upd_ne (ne_of_none h1 hn)]; exact h1, RKs.addB' hn h2⟩
  av := fun B ρ H p u hp ⟨h0, h1, h2⟩ => ⟨h0, by rw [upd_ne (by rintro rfl; exact h0 hp)]; exact h1, RKs.av' hp h2⟩
  stop := fun B ρ H ⟨h0, h1, h2⟩ => ⟨h1, by rw [List.length_map, rks_len h2]; exact Nat.le_refl _⟩
  go := fun B ρ H i ⟨h0, h1, h2⟩ hi => ⟨h1, by rw [← rks_len h2]; simpa using hi⟩
  yld := fun B ρ S H H' i k x ⟨h0, h1, h2⟩ R e y => by
    obtain ⟨rfl, en, he, rfl⟩ := y
    exact ⟨Post.refl, R, rks_get h2 e he⟩
theorem walk_keysI {d : Addr} {o : Obj} {ents : List (L2.Key × V)} {kvs : List (Int × D)} (hd : d ∈ L) : WalkOk G L (Itk d o ents) (kvs.map fun p => D.int p.1) (fun B ρ H => d ∉ B ∧ H d = some (.frz o (.dK ents)) ∧ RIs G B ρ H kvs ents) where
  mono := fun B ρ ρ' H H' p ⟨h0, h1, h2⟩ => ⟨h0, p.ext d _ (.inr hd) h1, h2.mono p⟩
  addB := fun B ρ H p u hn ⟨h0, h1, h2⟩ => ⟨fun z => (List.mem_cons.mp z).elim (fun z => by rw [z, hn] at h1; cases h1) h0, by rw [upd_ne (ne_of_none h1 hn)]; exact h1, RIs.addB' hn h2⟩
  av := fun B ρ H p u hp ⟨h0, h1, h2⟩ => ⟨h0, by rw [upd_ne (by rintro rfl; exact h0 hp)]; exact h1, RIs.av' hp h2⟩
  stop := fun B ρ H ⟨h0, h1, h2⟩ => ⟨h1, by rw [List.length_map, ris_len h2]; exact Nat.le_refl _⟩
  go := fun B ρ H i ⟨h0, h1, h2⟩ hi => ⟨h1, by rw [← ris_len h2]; simpa using hi⟩
  yld := fun B ρ S H H' i k x ⟨h0, h1, h2⟩ R e y => by
    obtain ⟨rfl, kk, v, he, rfl⟩ := y
    exact ⟨Post.refl, R, ris_get h2 e he⟩
end
section
variable {X : Cx} {w : Wx} {tg e : Expr} {fe : FE}
theorem si_keysD (he : SE X w e fe) : SI X w tg e (iKeysD fe) := PI.imp (pi_keysX he) fun σ H R ⟨B, L, ρ, S, env, A, g⟩ => by
  refine ⟨B, L, ρ, S, env, A, ?_⟩
  revert g
  unfold iKeysD
  cases fe env S with
  | exc c S' => exact fun g => g
  | bad => exact fun g => g
  | ok d S' =>
    intro g v ρ' H' p RR r
    have g' := GO.step g p
    revert g'
    cases r with
    | @loc n a h =>
      simp only [Out.bind]
      cases q : S'[n]? with
      | none => exact fun g => g.elim
      | some ob =>
        have ro := RR.ob n a ob h q
        have hb : a ∉ B := RR.dj a (List.mem_of_getElem? h)
        cases ob with
        | dct lk kvs =>
          cases lk with
          | false => exact fun g => g.elim
          | true =>
            obtain ⟨ents, h1, h2⟩ := ro
            unfold LkAt at h1
            rw [if_pos rfl] at h1
            obtain ⟨hl, od, h1⟩ := h1
            exact fun g => ⟨a, od, rfl, .inr ⟨ents, h1, g _ ρ' H' Post.refl RR ⟨_, walk_keysX hl, hb, h1, h2⟩⟩⟩
        | dki lk kvs =>
          cases lk with
          | false => exact fun g => g.elim
          | true =>
            obtain ⟨ents, h1, h2⟩ := ro
            unfold LkAt at h1
            rw [if_pos rfl] at h1
            obtain ⟨hl, od, h1⟩ := h1
            exact fun g => ⟨a, od, rfl, .inl ⟨ents, h1, g _ ρ' H' Post.refl RR ⟨_, walk_keysI hl, hb, h1, h2⟩⟩⟩
        | _ => exact fun g => g.elim
    | _ => exact fun g => g.elim
end
/-! d.get(k, x) -/
def isDct (o : D) (S : Sto) : Bool := match o with
  | .loc n => match S[n]? with
    | some (.dct _ _) => true
    | some (.dki _ _) => true
    | _ => false
  | _ => false
def fGetX (fo fk fd : FE) : FE := fun env S => (fo env S).bind fun o S1 => bif isDct o S1 then (fk env S1).bind fun k S2 => (fd env S2).bind fun d S3 => (match findD o k S3 with
  | some r => .ok (r.getD d) S3
  | none => .bad) else .bad
def IsX (P : Program) (w : World) (H : Hp) (a : Addr) : Prop := (∃ kvs, Rd H a (.dK kvs)) ∨ ∃ ents, Rd H a (dx P w a ents)
theorem isX_at {X : Cx} {pins : List (Addr × Obj)} {σ : L2.St} {H : Hp} {s : Shared} {a : Addr} (I : Inv X pins σ H s) (d : IsX X.prog X.w H a) :
    s.TypeIs (.ref a) "dict" ∧ (∀ b, Value.ref a = .ref b → ∃ ob, s.heap.get? b = some ob ∧ ob.dict = none) := by
  rcases d with h | ⟨ents, e⟩
  · obtain ⟨h1, h2, _⟩ := isD_at I (.inl h); exact ⟨h1, h2⟩
  · obtain ⟨h1, h2, _⟩ := xd_typeIs I e; exact ⟨h1, h2⟩
def tXGet2 (P : Program) (w : World) (td ty tx : TE) : TE := fun σ H Q => td σ H fun x H1 => ∃ a, x = .ref a ∧ IsX P w H1 a ∧ ty σ H1 fun y H2 => tx σ H2 fun z H3 => ∃ o, XDG P w H3 a y o ∧ Q (o.getD z) H3
section
variable {X : Cx} {w : Wx} {o e f : Expr} {apos cpos : Pos} {td ty tx : TE} {fo fk fd : FE}
theorem pe_xget2 (hu : X.A.units + 9 < cLine) (ho : PE X o td) (he : PE X e ty) (hf : PE X f tx) (m : M2 X o "get" apos e f cpos) : PE X (.Call (.Attribute o "get" apos) [e, f] [] cpos) (tXGet2 X.prog X.w td ty tx) := by
  refine ⟨fun pins s σ H Q I h => ?_⟩
  refine wpAny_Call_method m.base m.few m.line PySem.F.plainAttrs_dict PySem.F.slot_dict_get PySem.F.type_dict_get (thn (ho.run pins s σ H _ I h) fun u s1 ⟨x, H1, I1, rx, a, ex, d, q1⟩ => ?_)
  subst ex
  obtain rfl : u = Value.ref a := rx
  obtain ⟨t1, t2⟩ := isX_at I1 d
  refine ⟨t1, t2, ?_⟩
  rw [m.trees]
  refine Calls.callWith_builtin rfl (Calls.evalArgs_plain (Calls.spliced_cons (thn (he.run pins s1 σ H1 _ I1 q1) fun iv s2 ⟨y, H2, I2, ry, q2⟩ =>
    Calls.spliced_cons (thn (hf.run pins s2 σ H2 _ I2 q2) fun fv s3 ⟨z, H3, I3, rz, ov, g, q3⟩ => Calls.spliced_nil ?_))))
  exact g.elim (fun g => xd_get2 hu I3 g ry rz fun w' s4 I4 rw' => ⟨_, H3, I4, rw', q3⟩) fun g => d_get2 (by omega) I3 g ry rz fun w' s4 I4 rw' => ⟨_, H3, I4, rw', q3⟩
theorem se_getX (hu : X.A.units + 9 < cLine) (ho : SE X w o fo) (he : SE X w e fk) (hf : SE X w f fd) (m : M2 X o "get" apos e f cpos) : SE X w (.Call (.Attribute o "get" apos) [e, f] [] cpos) (fGetX fo fk fd) :=
  PE.imp (pe_xget2 hu ho he hf m) fun σ H Q ⟨B, L, ρ, S, env, A, g⟩ => by
    refine ⟨B, L, ρ, S, env, A, ?_⟩
    revert g
    unfold fGetX
    cases fo env S with
    | exc c S' => exact fun g => g
    | bad => exact fun g => g
    | ok d S' =>
      intro g v ρ' H' p R r
      have g' := GO.step g p
      revert g'
      simp only [Out.bind]
      cases hd : isDct d S' with
      | false => exact fun g => g.elim
      | true =>
      intro g'
      have gg : GO (pg X) w.W w.xm B L ρ' H' σ (rD (pg X) B) ((fk env S').bind fun k S2 => (fd env S2).bind fun d' S3 => (match findD d k S3 with
        | some r => Out.ok (r.getD d') S3
        | none => .bad)) Q := g'
      cases r with
      | @loc n a h =>
        refine ⟨a, rfl, ?_, ?_⟩
        · unfold isDct at hd
          simp only at hd
          cases q : S'[n]? with
          | none => rw [q] at hd; cases hd
          | some ob =>
            rw [q] at hd
            have ro := R.ob n a ob h q
            cases ob with
            | dct lk kvs => obtain ⟨ents, h1, h2⟩ := ro; exact .inr ⟨ents, lk_rd h1⟩
            | dki lk kvs => obtain ⟨ents, h1, h2⟩ := ro; exact .inl ⟨ents, lk_rd h1⟩
            | _ => cases hd
        · refine ⟨B, L, ρ', S', env, A.step p R, ?_⟩
          revert gg
          cases fk env S' with
          | exc c S2 => exact fun g => g
          | bad => exact fun g => g
          | ok k S2 =>
            intro gg y ρ2 H2 p2 R2 r2
            have g2 : GO (pg X) w.W w.xm B L ρ2 H2 σ (rD (pg X) B) ((fd env S2).bind fun d' S3 => (match findD (.loc n) k S3 with
              | some r => Out.ok (r.getD d') S3
              | none => .bad)) Q := GO.step gg p2
            refine ⟨B, L, ρ2, S2, env, (A.step p R).step p2 R2, ?_⟩
            revert g2
            cases fd env S2 with
            | exc c S3 => exact fun g => g
            | bad => exact fun g => g
            | ok d' S3 =>
              intro g2 z ρ3 H3 p3 R3 r3
              have g3 : GO (pg X) w.W w.xm B L ρ3 H3 σ (rD (pg X) B) (match findD (.loc n) k S3 with
                | some r => Out.ok (r.getD d') S3
                | none => .bad) Q := GO.step g2 p3
              cases hf : findD (.loc n) k S3 with
              | none => rw [hf] at g3; exact g3.elim
              | some r =>
                rw [hf] at g3
                obtain ⟨a2, v2, e2, gx, kk⟩ := findD_ok R3 (RV.loc (p3.at (p2.at h))) (r2.mono p3) hf
                cases e2
                refine ⟨v2, gx, ?_⟩
                refine g3 _ ρ3 H3 Post.refl R3 ?_
                rcases kk with ⟨k1, k2⟩ | ⟨d2, u, k1, k2, k3⟩
                · rw [k1, k2]; exact r3
                · rw [k1, k2]; exact k3
      | _ => cases hd
end
end Sf
end

section
set_option Elab.async false
set_option maxRecDepth 100000
set_option linter.all false
/-! Sd7: d != {}. -/
namespace Sf
open PySem PySem.Spec PyProof.Rows L2
section
variable {prog : Program} {w : World} {A : Around} {E : Value → Shared → Prop} {s : Shared}
theorem samePairs0 {nm : String} {a b : Addr} {oa ob : Obj} {es : Array DictEntry} {ep ep' : Nat} {Q : Bool → Shared → Prop} (ha : (a == sysModules) = false) (hb : (b == sysModules) = false)
    (hoa : s.heap.get? a = some oa) (hda : oa.data = .dict es ep) (hob : s.heap.get? b = some ob) (hdb : ob.data = .dict #[] ep') (h : Q (es.size == 0) s) :
    wpAny (model prog w) A (Builtin.Dict.samePairs nm a b) Q E s := by
  unfold Builtin.Dict.samePairs Builtin.Dict.showsAll
  rw [if_neg (show ¬ (a == sysModules) = true by rw [ha]; exact Bool.false_ne_true), if_neg (show ¬ (b == sysModules) = true by rw [hb]; exact Bool.false_ne_true)]
  refine wpAny_bind (wpAny_pure (wpAny_bind (wpAny_pure ?_)))
  refine wpAny_bind (wpAny_dictEntries hoa hda ?_)
  dsimp only
  refine wpAny_bind (wpAny_dictEntries hob hdb ?_)
  by_cases hsz : es.size = 0
  case neg =>
    rw [if_pos (by simpa using hsz)]
    have hbf : (es.size == 0) = false := by simpa using hsz
    rw [hbf] at h
    exact wpAny_bind (wpAny_rule (wpAny_pure h))
  case pos =>
    have h' : Q true s := by simpa [hsz] using h
    rw [if_neg (by rw [hsz]; simp)]
    refine wpAny_bind (wpAny_dictEpoch hoa hda ?_)
    refine wpAny_bind ?_
    rw [Std.Legacy.Range.forIn_eq_forIn_range']
    simp only [Std.Legacy.Range.size, Nat.sub_zero, Nat.add_sub_cancel, Nat.div_one]
    rw [hsz]
    exact wpAny_pure (wpAny_pure h')
theorem ne_empty {a b : Addr} {oa ob : Obj} {es : Array DictEntry} {ep ep' : Nat} {Q : Value → Shared → Prop} (ha : (a == sysModules) = false) (hb : (b == sysModules) = false)
    (hoa : s.heap.get? a = some oa) (xa : oa.ExactDict) (hda : oa.data = .dict es ep) (hob : s.heap.get? b = some ob) (xb : ob.ExactDict) (hdb : ob.data = .dict #[] ep') (hu : A.units < cLine) (h : Q (.bool (!(es.size == 0))) s) :
    wpAny (model prog w) A (compareOp .NotEq (.ref a) (.ref b)) Q E s := by
  have da : s.TypeIs (.ref a) "dict" := ⟨oa, hoa, xa.1⟩
  have db : s.TypeIs (.ref b) "dict" := ⟨ob, hob, xb.1⟩
  refine wpAny_richCompare_same_room (op := .NotEq) da db PySem.F.slot_dict_ne (wpAny_call_entry PySem.F.slot_dict_ne da PySem.F.entry_dict_ne ?_ (PySem.F.args_dict_ne_2 _ _)) hu
  show wpAny _ _ (Builtin.Dict.dictSlotArgs "__ne__" ⟨[.ref a, .ref b], []⟩ >>= _) _ _ s
  refine wpAny_bind ?_
  unfold Builtin.Dict.dictSlotArgs
  refine wpAny_bind (wpAny_notOrdered_dict da ?_)
  show wpAny _ _ (pure (Value.ref a, Value.ref b)) _ _ s
  refine wpAny_pure ?_
  refine wpAny_bind (wpAny_isInstance (T := "dict") db PySem.F.sub_dict_dict ?_)
  simp only [Bool.not_true, Bool.false_eq_true, if_false]
  refine wpAny_bind (wpAny_pure (wpAny_bind (wpAny_pure ?_)))
  refine wpAny_bind (samePairs0 ha hb hoa hda hob hdb ?_)
  refine wpAny_pure ⟨_, rfl, ?_, ?_⟩
  · exact fun x => nomatch x
  · simpa using h
end
def rNeE (P : Program) (w : World) : R2 := fun x y H Q => ∃ a b ents, x = .ref a ∧ y = .ref b ∧ Rd H a (dx P w a ents) ∧ Rd H b (dx P w b []) ∧ Q (.bl (!(ents.length == 0))) H
theorem op_neE {X : Cx} (hu : X.A.units < cLine) : OpR X (compareOp .NotEq) (rNeE X.prog X.w) := by
  intro pins s σ H x y v u Q I rx ry h
  obtain ⟨a, b, ents, rfl, rfl, ea, eb, q⟩ := h
  cases (show v = Value.ref a from rx)
  cases (show u = Value.ref b from ry)
  obtain ⟨z, hs, nd, xs, r, o, es, ep, h1, h2, h3, h4⟩ := dx_rd I.hok ea
  obtain ⟨z', hs', nd', xs', r', o', es', ep', h1', h2', h3', h4'⟩ := dx_rd I.hok eb
  cases r'
  have e0 : es' = #[] := by
    have : es'.toList = [] := by rw [h4']; rfl
    exact Array.toList_eq_nil_iff.mp this
  subst e0
  refine ne_empty hs hs' h1 h2 h3 h1' h2' h3' hu ⟨.bl _, H, I, rfl, ?_⟩
  have l1 : es.size = xs.length := size_of_entries h4
  have l2 : ents.length = xs.length := Paired.length r
  rw [l1, ← l2]; exact q
def tDNewX (P : Program) (w : World) : TE := fun _ H Q => ∀ p, H p = none → Q (.ref p) (upd H p (dx P w p []))
def fNeE (fo : FE) : FE := fun env S => (fo env S).bind fun o S1 => match o with
  | .loc n => (match S1[n]? with
    | some (.dct _ kvs) => .ok (.bl (!(kvs.length == 0))) S1
    | _ => .bad)
  | _ => .bad
section
variable {X : Cx} {w : Wx} {a : Expr} {fa : FE} {p pos : Pos}
theorem pe_dnewX : PE X (.Dict [] [] p) (tDNewX X.prog X.w) := ⟨fun pins s σ H Q I h =>
  wpAny_Dict_empty ⟨.ref s.heap.objs.size, _, I.laid (a := s.heap.objs.size) (o := dx X.prog X.w s.heap.objs.size []) (t' := s.toks) (fun _ _ q => Heap.get?_push_of_some _ q) (Nat.le_refl _) (dx_empty s.heap I.big), rfl, h _ (I.hok.fresh (Nat.le_refl _))⟩⟩
theorem go_neE {σ : L2.St} {H : Hp} {Q : VK} (h : tE (pg X) w.W w.xm (fNeE fa) σ H Q) : tOp (rNeE X.prog X.w) (tE (pg X) w.W w.xm fa) (tDNewX X.prog X.w) σ H Q := by
  obtain ⟨B, L, ρ, S, env, A, g⟩ := h
  refine ⟨B, L, ρ, S, env, A, ?_⟩
  revert g
  unfold fNeE
  cases fa env S with
  | exc c S' => exact fun g => g
  | bad => exact fun g => g
  | ok d S' =>
    intro g v ρ' H' p R r
    have g' := GO.step g p
    revert g'
    cases r with
    | @loc n a h =>
      simp only [Out.bind]
      cases q : S'[n]? with
      | none => exact fun g => g.elim
      | some ob =>
        have ro := R.ob n a ob h q
        cases ob with
        | dct lk kvs =>
          obtain ⟨ents, h1, h2⟩ := ro
          intro g b hb
          have hne : a ≠ b := by
            obtain ⟨u, hu⟩ := R.there h
            exact ne_of_none hu hb
          refine ⟨a, b, ents, rfl, rfl, ?_, .inl upd_same, ?_⟩
          · rcases lk_rd h1 with z | ⟨o, z⟩
            · exact .inl (by rw [upd_ne hne]; exact z)
            · exact .inr ⟨o, by rw [upd_ne hne]; exact z⟩
          · rw [← rks_len h2]
            exact g _ ρ' _ (Post.newV hb) (R.newV hb) (.bl _)
        | _ => exact fun g => g.elim
    | _ => exact fun g => g.elim
theorem se_neE (hu : X.A.units < cLine) (ha : SE X w a fa) : SE X w (.Compare a [.NotEq] [.Dict [] [] p] pos) (fNeE fa) := PE.imp (pe_cmpR (op_neE hu) ha pe_dnewX rfl) fun σ H Q h => go_neE h
theorem st_neE (hu : X.A.units < cLine) (ha : SE X w a fa) : ST X w (.Compare a [.NotEq] [.Dict [] [] p] pos) (tVal (fNeE fa)) := by
  refine PT.imp (pt_cmpR (op_neE hu) ha pe_dnewX rfl) fun σ H Q ⟨B, L, ρ, S, env, A, gg⟩ => ?_
  have key : tE (pg X) w.W w.xm (fNeE fa) σ H fun x H1 => ∃ k, x = .bl k ∧ Q k H1 := by
    refine tE_mono (tE_bind (rel := fun _ => rB) (f := fNeE fa) A gg) fun x H1 ⟨B, L, ρ, S, d, A, r, g⟩ => ?_
    cases r with
    | bl c => exact ⟨c, rfl, GO.ok0 g A rfl⟩
    | _ => exact g.elim
  exact go_neE key
end
theorem hu9 {k : Nat} {A : Around} (hr : Room k A) : A.units + 9 < cLine := by have := hr.units; omega
theorem hu0 {k : Nat} {A : Around} (hr : Room k A) : A.units < cLine := by have := hr.units; omega
/-! f() -/
def fCall0 (F : Fn) : FE := fun _ S => F [] S
section
variable {X : Cx} {w : Wx} {k : Nat} {f : Addr} {fd : FuncData} {ps : List Str} {F : Fn} {x : Str} {p pos : Pos}
theorem se_call0 (FO : FnOk X.prog X.w X.K X.mg X.base (L2.CX X.prog X.w) k f fd ps (spOf (pg X) w.xm 0 F)) (tk : Takes X w.W) (hr : Room k X.A) (hm : X.mg x = some (.ref f)) (hk : PySem.W.keepIn X.K (.ref f) = true) (hb : Binds X.K fd ps [])
    (hg : Gl X x := by rfl) (hdb : (x == ("__debug__" : Str)) = false := by decide) : SE X w (.Call (.Name x p) [] [] pos) (fCall0 F) := by
  refine ⟨fun pins s σ H Q I ⟨B, L, ρ, S, env, A, g⟩ => ?_⟩
  refine wpAny_Call_Name_kw (ld_glob I hg hm ?_ hdb)
  refine PySem.W.callWith_K0 I.kIn hk (run_fnS (us := []) (E := WE w.W) FO hr hb (passAt tk σ) I .nil ⟨rfl, B, L, ρ, S, [], A.rh, .nil, ?_⟩)
  revert g
  unfold fCall0
  cases F [] S with
  | ok d S2 => exact fun g => g
  | exc c S2 => exact fun g => g
  | bad => exact fun g => g
end
end Sf
end

section
set_option Elab.async false
set_option maxRecDepth 100000
set_option linter.all false
/-! Sd8: x in a list or a tuple of flat values. -/
namespace Sf
open PySem PySem.Spec PyProof.Rows L2
def flatD : D → Bool
  | .non => true
  | .bl _ => true
  | .int _ => true
  | .str _ => true
  | _ => false
def eqD : D → D → Bool
  | .non, b => match b with
    | .non => true
    | _ => false
  | .bl a, b => match b with
    | .bl b => a == b
    | .int b => (if a then 1 else 0) == b
    | _ => false
  | .int a, b => match b with
    | .bl b => a == (if b then 1 else 0)
    | .int b => a == b
    | _ => false
  | .str a, b => match b with
    | .str b => a == b
    | _ => false
  | _, _ => false
def inD (x : D) (xs : List D) : Bool := xs.any fun y => eqD y x
def seqOf (y : D) (S : Sto) : Option (List D) := match y with
  | .tup l => some l
  | y => lsR y S
def oInG (neg : Bool) : Op2 := fun x y S => match seqOf y S with
  | some l => bif flatD x && l.all flatD then some (.bl (if neg then !inD x l else inD x l), S) else none
  | none => none
abbrev oIn : Op2 := oInG false
abbrev oNin : Op2 := oInG true
section
variable {K : PySem.W.Frag} {B ρ : List Addr} {H : Hp}
theorem flat_ok {d : D} {v : V} (r : RV K B ρ H d v) (h : flatD d = true) : flatV v = true := by
  cases r <;> first | rfl | (cases h; done)
theorem eqD_ok {d e : D} {v w : V} (r : RV K B ρ H d v) (r' : RV K B ρ H e w) (h : flatD d = true) (h' : flatD e = true) : eqV v w = eqD d e := by
  cases r <;> cases r' <;> first | rfl | (cases h; done) | (cases h'; done)
theorem flats_ok : ∀ {ds : List D} {vs : List V}, RVs K B ρ H ds vs → ds.all flatD = true → vs.all flatV = true
  | _, _, .nil, _ => rfl
  | _, _, .cons r t, h => by
    rw [List.all_cons, Bool.and_eq_true] at h
    rw [List.all_cons, flat_ok r h.1, flats_ok t h.2]; rfl
theorem inD_ok {d : D} {v : V} (r : RV K B ρ H d v) (hd : flatD d = true) : ∀ {ds : List D} {vs : List V}, RVs K B ρ H ds vs → ds.all flatD = true → inV v vs = inD d ds
  | _, _, .nil, _ => rfl
  | _, _, .cons r' t, h => by
    rw [List.all_cons, Bool.and_eq_true] at h
    have := inD_ok r hd t h.2
    unfold inV inD at this ⊢
    rw [List.any_cons, List.any_cons, eqD_ok r' r h.1 hd, this]
end
section
variable {X : Cx}
theorem ok_inG {neg : Bool} : Ok2 (pg X) (rIn X.K neg) (oInG neg) := by
  intro B L ρ S S' H d1 d2 d' x y Q R r1 r2 e q
  unfold oInG at e
  have key : ∀ (l : List D) (p : Addr) (xs : List V), RVs X.K B ρ H l xs → (SqL X.K H p xs ∨ SqT X.K H p xs) → y = .ref p →
      (bif flatD d1 && l.all flatD then some (D.bl (if neg then !inD d1 l else inD d1 l), S) else none) = some (d', S') → rIn X.K neg x y H Q := by
    intro l p xs rv hs ey e
    cases hf : (flatD d1 && l.all flatD) with
    | false => rw [hf] at e; cases e
    | true =>
      rw [hf] at e
      cases e
      rw [Bool.and_eq_true] at hf
      refine ⟨p, xs, ey, hs, flat_ok r1 hf.1, flats_ok rv hf.2, ?_⟩
      rw [inD_ok r1 hf.1 rv hf.2]
      exact here q R (.bl _)
  cases hq : seqOf d2 S with
  | none => rw [hq] at e; cases e
  | some l =>
    rw [hq] at e
    simp only at e
    cases r2 with
    | tup h r => cases hq; exact key _ _ _ r (.inr h.sq) rfl e
    | non => cases hq
    | bl b => cases hq
    | int i => cases hq
    | str s => cases hq
    | glob h => cases hq
    | lst h1 h2 h3 h4 => obtain ⟨a, vs, e1, e2, e3⟩ := lsR_ok R (.lst h1 h2 h3 h4) hq; exact key l a vs e3 (.inl e2) e1 e
    | scr h1 h2 => obtain ⟨a, vs, e1, e2, e3⟩ := lsR_ok R (.scr h1 h2) hq; exact key l a vs e3 (.inl e2) e1 e
    | loc h => obtain ⟨a, vs, e1, e2, e3⟩ := lsR_ok R (.loc h) hq; exact key l a vs e3 (.inl e2) e1 e
theorem opr_in : OpR X (compareOp .In) (rIn X.K false) := op_in_seq
theorem opr_nin : OpR X (compareOp .NotIn) (rIn X.K true) := op_notIn_seq
theorem ok_in : Ok2 (pg X) (rIn X.K false) oIn := ok_inG
theorem ok_nin : Ok2 (pg X) (rIn X.K true) oNin := ok_inG
end
end Sf
end

section
set_option Elab.async false
set_option maxRecDepth 100000
set_option linter.all false
/-! Sd9: max of a list of pairs of ints. -/
namespace Sf
open PySem PySem.Spec PyProof.Rows L2
def pairOf (d : D) : Option (Int × Int) := match d with
  | .tup l => match intsD l with
    | some [a, b] => some (a, b)
    | _ => none
  | _ => none
def prsD : List D → Option (List (Int × Int))
  | [] => some []
  | d :: r => match pairOf d, prsD r with
    | some p, some ps => some (p :: ps)
    | _, _ => none
def ltPr (a b : Int × Int) : Bool := decide (a.1 < b.1) || (decide (a.1 = b.1) && decide (a.2 < b.2))
def maxPr (x : Int × Int) (xs : List (Int × Int)) : Int × Int := xs.foldl (fun a y => if ltPr a y then y else a) x
def pairD (p : Int × Int) : D := .tup [.int p.1, .int p.2]
def oMaxP : OpN := fun xs S => match xs with
  | [x] => match lsR x S with
    | some l => match prsD l with
      | some (p :: ps) => some (pairD (maxPr p ps), S)
      | _ => none
    | none => none
  | _ => none
def pyP (p : Int × Int) : PyData := .tuple [.int p.1, .int p.2]
section
variable {G : Pg} {B ρ : List Addr} {H : Hp}
theorem intsD_inv : ∀ {l : List D} {ns : List Int}, intsD l = some ns → l = ns.map D.int
  | [], ns, e => by cases e; rfl
  | d :: r, ns, e => by
    cases d with
    | int i =>
      unfold intsD at e
      cases q : intsD r with
      | none => rw [q] at e; cases e
      | some ms => rw [q] at e; cases e; rw [intsD_inv q]; rfl
    | _ => unfold intsD at e; cases e
theorem dpAll_ints {K : PySem.W.Frag} : ∀ ns : List Int, DpAll K H (ns.map V.int) (ns.map PyData.int)
  | [] => .nil
  | i :: ns => .cons (.int i) (dpAll_ints ns)
theorem pairOf_ok {d : D} {v : V} {p : Int × Int} (h : RV G.K B ρ H d v) (e : pairOf d = some p) : d = pairD p ∧ Dp G.K H v (pyP p) := by
  unfold pairOf at e
  cases h with
  | @tup a ws ds h1 h2 =>
    simp only at e
    cases q : intsD ds with
    | none => rw [q] at e; cases e
    | some ns =>
      rw [q] at e
      match ns, q, e with
      | [x, y], q, e =>
        cases e
        have e1 := intsD_inv q
        have e2 := intsD_ok h2 q
        subst e1 e2
        exact ⟨rfl, .tup h1.sq (dpAll_ints [x, y])⟩
      | [], _, e => cases e
      | [_], _, e => cases e
      | _ :: _ :: _ :: _, _, e => cases e
  | _ => cases e
theorem prsD_ok : ∀ {l : List D} {ps : List (Int × Int)} {vs : List V}, RVs G.K B ρ H l vs → prsD l = some ps → l = ps.map pairD ∧ DpAll G.K H vs (ps.map pyP)
  | [], ps, _, .nil, e => by cases e; exact ⟨rfl, .nil⟩
  | d :: r, ps, _, .cons h t, e => by
    unfold prsD at e
    cases q1 : pairOf d with
    | none => rw [q1] at e; cases e
    | some p =>
      cases q2 : prsD r with
      | none => rw [q1, q2] at e; cases e
      | some ms =>
        rw [q1, q2] at e; cases e
        obtain ⟨a1, a2⟩ := pairOf_ok h q1
        obtain ⟨b1, b2⟩ := prsD_ok t q2
        exact ⟨by rw [a1, b1]; rfl, .cons a2 b2⟩
end
theorem dataLt_pr (a b : Int × Int) : PySem.W.dataLt (pyP a) (pyP b) = ltPr a b := by
  obtain ⟨a1, a2⟩ := a
  obtain ⟨b1, b2⟩ := b
  have e : ∀ x y : Int, PySem.W.keyToks (pyP (x, y)) = [.inl 1, .inl x, .inl 1, .inl y, .inl 0] := fun x y => by
    simp [pyP, PySem.W.keyToks, PySem.W.keyToksAll]
  have d : ∀ x y : Int, PyProof.Rows.lexLt itemOrd [.inl x] [.inl y] = decide (x < y) := fun x y => PySem.W.dataLt_int x y
  unfold PySem.W.dataLt
  rw [e, e]
  have s := fun (x : Int ⊕ List Nat) l m => lex_self (O := itemOrd) x l m
  rw [s]
  unfold ltPr
  by_cases h1 : a1 = b1
  · subst h1
    rw [s, s]
    by_cases h2 : a2 = b2
    · subst h2
      rw [s, d]; simp
    · rw [PySem.W.lex_atom (by intro z; cases z; exact h2 rfl), d]; simp
  · rw [PySem.W.lex_atom (by intro z; cases z; exact h1 rfl), d]; simp [h1]
theorem maxD_pr (p : Int × Int) : ∀ ps : List (Int × Int), PySem.W.maxD (pyP p) (ps.map pyP) = pyP (maxPr p ps) := by
  intro ps
  unfold PySem.W.maxD maxPr
  induction ps generalizing p with
  | nil => rfl
  | cons q r ih =>
    rw [List.map_cons, List.foldl_cons, List.foldl_cons, ← ih, dataLt_pr]
    cases ltPr p q <;> rfl
theorem alike_prs (ps : List (Int × Int)) : PySem.W.AlikeAll (ps.map pyP) := by
  refine ⟨fun x hx y hy => ?_, fun x hx => ?_⟩
  · obtain ⟨p, _, rfl⟩ := List.mem_map.mp hx
    obtain ⟨q, _, rfl⟩ := List.mem_map.mp hy
    simp [pyP, PySem.W.alike, PySem.W.alikeAll]
  · obtain ⟨p, _, rfl⟩ := List.mem_map.mp hx
    intro h; cases h
theorem depth_prs : ∀ ps : List (Int × Int), PyData.depthAll (ps.map pyP) ≤ 1
  | [] => by simp [PyData.depthAll]
  | p :: ps => by
    have := depth_prs ps
    rw [List.map_cons]
    unfold PyData.depthAll
    simp [pyP, PyData.depth, PyData.depthAll]
    omega
/-- max of a list of pairs -/
def rMaxPr (K : PySem.W.Frag) : List V → Hp → VK → Prop := fun vs H Q => ∃ (a : Addr) (xs : List V) (p : Int × Int) (ps : List (Int × Int)), vs = [.ref a] ∧ SqL K H a xs ∧ DpAll K H xs ((p :: ps).map pyP) ∧
  ∀ (i : Nat) (x : V), xs[i]? = some x → (p :: ps)[i]? = some (maxPr p ps) → Q x H
theorem pyP_inj {p q : Int × Int} (h : pyP p = pyP q) : p = q := by
  obtain ⟨a, b⟩ := p
  obtain ⟨c, d⟩ := q
  unfold pyP at h
  simp at h
  rw [h.1, h.2]
theorem callr_maxP {X : Cx} {k : Nat} (hc : X.calm = true) (hr : Room k X.A) : CallR X (.builtin "max") (rMaxPr X.K) := by
  intro pins s σ H vs us Q I r h
  obtain ⟨a, xs, p, ps, rfl, hs, hd, q⟩ := h
  obtain ⟨its, rv, hl, _⟩ := I.list hs
  rw [Vals.ref1 r]
  obtain ⟨as, rd⟩ := Dp.readsAll I _ _ its hd rv
  have hu := hr.units
  refine PySem.W.max_list_data (I.ok.hd hc) hl.isList (x := pyP p) (xs := ps.map pyP) (as := as) (by simpa using rd) (alike_prs (p :: ps)) (by have := depth_prs (p :: ps); have e : PyData.depthAll (pyP p :: ps.map pyP) ≤ 1 := this; omega) fun i v h' tk bs hv hR hk => ?_
  have hv' : its[i]? = some v := by simpa using hv
  obtain ⟨x, hx, rx⟩ : ∃ x, xs[i]? = some x ∧ RelV x v := by
    have key : ∀ {xs : List V} {us : List Value} {i : Nat} {v : Value}, Vals xs us → us[i]? = some v → ∃ x, xs[i]? = some x ∧ RelV x v := by
      intro xs us i v r
      induction r generalizing i with
      | nil => intro h; simp at h
      | cons h _ ih =>
        intro hv
        cases i with
        | zero => simp at hv; subst hv; exact ⟨_, rfl, h⟩
        | succ i => simpa using ih (by simpa using hv)
    exact key rv hv'
  obtain ⟨bs', r2, hlt, _, _⟩ := PySem.W.readsAll_at rd i v hv'
  have det := (PyProof.Rows.reads_det (fun b o e _ => hk b o e) r2 hR).1
  refine ⟨x, H, I.kept hk, rx, q i x hx ?_⟩
  rw [maxD_pr] at det
  rw [List.length_map] at hlt
  have e1 : ((p :: ps).map pyP).getD i .none = pyP ((p :: ps)[i]) := by
    rw [List.getD_eq_getElem?_getD, List.getElem?_map, List.getElem?_eq_getElem hlt]; rfl
  rw [e1] at det
  rw [List.getElem?_eq_getElem hlt, pyP_inj det.symm]
theorem ok_maxP {X : Cx} : OkN (pg X) (rMaxPr X.K) oMaxP := by
  intro B L ρ S S' H ds d' xs Q R r e q
  unfold oMaxP at e
  match ds, r, e with
  | [x], .cons r1 .nil, e =>
    simp only at e
    cases e1 : lsR x S with
    | none => rw [e1] at e; cases e
    | some l =>
      rw [e1] at e
      simp only at e
      cases e2 : prsD l with
      | none => rw [e2] at e; cases e
      | some ps =>
        rw [e2] at e
        cases ps with
        | nil => cases e
        | cons p ps =>
          cases e
          obtain ⟨a, vs, rfl, hs, rv⟩ := lsR_ok R r1 e1
          obtain ⟨el, hd⟩ := prsD_ok rv e2
          refine ⟨a, vs, p, ps, rfl, hs, hd, fun i x hx hi => ?_⟩
          have hli : l[i]? = some (pairD (maxPr p ps)) := by rw [el, List.getElem?_map, hi]; rfl
          obtain ⟨v, hv, rvv⟩ := rv.get hli
          rw [hx] at hv; cases hv
          exact here q R rvv
  | [], .nil, e => cases e
  | _ :: _ :: _, _, e => cases e
end Sf
end

section
set_option Elab.async false
set_option maxRecDepth 100000
set_option linter.all false
/-! Sd10: x[::-1] of a tuple or a list. -/
namespace HT
open PySem PyProof.Rows
section
variable {prog : Program} {w : World} {A : Around} {E : Value → Shared → Prop} {s : Shared}
theorem adjust_rev (n : Nat) : Builtin.Slice.sliceAdjust none none (-1) (n : Int) = ((n : Int) - 1, -1) := by
  unfold Builtin.Slice.sliceAdjust
  simp
theorem places_rev (n : Nat) : Builtin.Slice.slicePlaces ((n : Int) - 1) (-1) (-1) = n := by
  unfold Builtin.Slice.slicePlaces
  have h1 : ¬ ((-1 : Int) > 0) := by omega
  simp only [h1, if_false]
  rw [show (-(-1) : Int) = 1 by decide, Int.ediv_one]
  split <;> omega
theorem pick_rev (xs : Array Value) : ((List.range xs.size).filterMap fun (m : Nat) => xs[((xs.size : Int) - 1 + (m : Int) * -1).toNat]?).toArray = xs.toList.reverse.toArray := by
  rw [← PySem.W.krv_pick]
  unfold slicePick
  rw [PySem.W.krv_bounds]
  show _ = ((sliceRange ((xs.size : Int) - 1) (-1) (-1)).filterMap (xs[·]?)).toArray
  rw [PySem.W.krv_sliceRange, List.filterMap_map]
  congr 1
  have : ∀ l : List Nat, (∀ m ∈ l, m < xs.size) → l.filterMap (fun (m : Nat) => xs[((xs.size : Int) - 1 + (m : Int) * -1).toNat]?) = l.filterMap ((fun x => xs[x]?) ∘ fun k => xs.size - 1 - k) := by
    intro l
    induction l with
    | nil => intro _; rfl
    | cons m l ih =>
      intro h
      have hm := h m (by simp)
      have e : ((xs.size : Int) - 1 + (m : Int) * -1).toNat = xs.size - 1 - m := by omega
      rw [List.filterMap_cons, List.filterMap_cons, ih fun k hk => h k (by simp [hk]), e]
      rfl
  exact this _ fun m hm => List.mem_range.mp hm
theorem sliceApplied_rev {sl : Addr} {vl vu vs : Value} {n : Nat} {Q : Int × Int × Nat → Shared → Prop} (hs : s.heap.IsSliceOf sl vl vu vs) (pl : IsPart vl none) (pu : IsPart vu none) (ps : IsPart vs (some (-1)))
    (h : Q ((n : Int) - 1, -1, n) s) : wpAny (model prog w) A (Builtin.Slice.sliceApplied (.ref sl) (pure (n : Int))) Q E s := by
  obtain ⟨os, hos, hcs, hds⟩ := id hs
  unfold Builtin.Slice.sliceApplied Builtin.Slice.sliceFields
  refine wpAny_bind (wpAny_bind (wpAny_field hos hds (x := vl) rfl (wpAny_bind (wpAny_field hos hds (x := vu) rfl (wpAny_bind (wpAny_field hos hds (x := vs) rfl (wpAny_pure ?_)))))))
  refine wpAny_bind (slicePart_ ps ?_)
  show wpAny _ _ (if ((-1 : Int) == 0) = true then _ else _) _ _ s
  rw [if_neg (by decide)]
  refine wpAny_bind (slicePart_ pl (wpAny_bind (slicePart_ pu (wpAny_bind (wpAny_pure ?_)))))
  show wpAny _ _ (match Builtin.Slice.sliceAdjust none none (-1) (n : Int) with | (lo, hi) => pure (lo, (-1 : Int), Builtin.Slice.slicePlaces lo hi (-1))) _ _ s
  rw [adjust_rev n]
  show wpAny _ _ (pure ((n : Int) - 1, (-1 : Int), Builtin.Slice.slicePlaces ((n : Int) - 1) (-1) (-1))) _ _ s
  rw [places_rev]
  exact wpAny_pure h
theorem getItem_tuple_rev {t sl : Addr} {items : Array Value} {vl vu vs : Value} {Q : Value → Shared → Prop} (ht : IsTup s.heap t items) (hs : s.heap.IsSliceOf sl vl vu vs) (pl : IsPart vl none) (pu : IsPart vu none) (ps : IsPart vs (some (-1)))
    (h : Q (.ref s.heap.objs.size) { s with heap := s.heap.push { cls := .type "tuple", data := .seq items.toList.reverse.toArray } })
    (hsz : items.size ≤ sizeLine) : wpAny (model prog w) A (getItem (.ref t) (.ref sl)) Q E s := by
  have htake : sizeOk (.seq items.toList.reverse.toArray) := by
    show items.toList.reverse.toArray.size ≤ sizeLine
    rw [List.size_toArray, List.length_reverse, Array.length_toList]
    exact hsz
  obtain ⟨os, hos, hcs, hds⟩ := id hs
  have hTs : s.TypeIs (.ref sl) "slice" := ⟨os, hos, hcs⟩
  unfold getItem
  try with_reducible refine wpAny_holding ?_
  first | refine wpAny_bind (wpAny_pure ?_) | skip
  refine wpAny_bind (wpAny_sequenceKey ht.typeIs (by decide) ?_)
  refine wpAny_bind (wpAny_callSpecial?_slot (name := Str.ofString "__getitem__") ht.typeIs PyProof.Rows.slot_tuple_getitem
    (wpAny_call_entry PyProof.Rows.slot_tuple_getitem ht.typeIs entry_tuple_getitem ?_ (args_tuple_getitem _ _)))
  show wpAny _ _ (Builtin.Tuple.tupleItemsOf (.ref t) >>= _) _ _ s
  refine wpAny_bind (tupleItemsOf_ ht ?_)
  refine wpAny_bind (wpAny_typeOf hTs ?_)
  rw [if_pos (by decide)]
  refine wpAny_bind (sliceApplied_rev hs pl pu ps ?_)
  have hno : ¬ ((((items.size : Int) - 1) == 0 && (-1 : Int) == 1 && items.size == items.size) = true) := by
    intro q
    rw [Bool.and_eq_true, Bool.and_eq_true] at q
    exact absurd (eq_of_beq q.1.2) (by decide)
  show wpAny _ _ (if (((items.size : Int) - 1) == 0 && (-1 : Int) == 1 && items.size == items.size) = true then _ else _) _ _ s
  rw [if_neg hno, pick_rev]
  first
    | exact wpAny_bind (m := Builtin.Tuple.tupleExact _) (wpAny_newObj_type (wpAny_pure ⟨_, rfl, wpAny_pure h⟩) htake)
    | exact wpAny_bind (m := Builtin.Tuple.tupleExact _) (wpAny_newObj_type (wpAny_bind (wpAny_pure (wpAny_pure ⟨_, rfl, wpAny_pure h⟩))) htake)
    | exact wpAny_bind (wpAny_bind (m := Builtin.Tuple.tupleExact _) (wpAny_newObj_type (wpAny_pure (wpAny_pure ⟨_, rfl, wpAny_pure h⟩)) htake))
    | exact wpAny_bind (wpAny_bind (m := Builtin.Tuple.tupleExact _) (wpAny_newObj_type (wpAny_pure ⟨_, rfl, wpAny_pure h⟩) htake))
end
end HT
namespace L2
open PySem PySem.Spec PyProof.Rows
def tRevA (K : PySem.W.Frag) (te : TE) : TE := fun σ H Q => te σ H fun x H1 => ∃ a xs, x = .ref a ∧ ((SqL K H1 a xs ∧ ∀ p, H1 p = none → Q (.ref p) (upd H1 p (.lst xs.reverse))) ∨ (SqT K H1 a xs ∧ ∀ p, H1 p = none → Q (.ref p) (upd H1 p (.tup xs.reverse))))
section
variable {X : Cx}
theorem pe_revA {e : Expr} {te : TE} {k : Nat} {p1 p2 p3 pos : Pos} (he : PE X e te) : PE X (.Subscript e (.Slice none none (some (.UnaryOp .USub (.Constant (.int 1) k p1) p2)) p3) pos) (tRevA X.K te) := by
  refine ⟨fun pins s σ H Q I h => ?_⟩
  refine Subscript_ (thn (he.run pins s σ H _ I h) fun v s1 ⟨x, H1, I1, r1, q1⟩ => ?_)
  obtain ⟨a, xs, ex, hq⟩ := q1
  subst ex
  cases r1
  have hst : PO X (some (.UnaryOp .USub (.Constant (.int 1) k p1) p2)) (tPart (tUn (rU fun i => .int (-i)) (tC (.int 1)))) := po_some (pe_un un_neg pe_int)
  refine wpAny_Slice (thn (po_none.run pins s1 σ H1 (fun o H2 => o = none ∧ H2 = H1) I1 ⟨rfl, rfl⟩) fun vl s2 ⟨l, H2, I2, pl, el, e2⟩ => ?_)
  subst el e2
  refine thn (po_none.run pins s2 σ H2 (fun o H3 => o = none ∧ H3 = H2) I2 ⟨rfl, rfl⟩) fun vu s3 ⟨u, H3, I3, pu, eu, e3⟩ => ?_
  subst eu e3
  refine thn (hst.run pins s3 σ H3 (fun o H4 => o = some (-1) ∧ H4 = H3) I3 ⟨1, rfl, -1, rfl, rfl, rfl⟩) fun vs s4 ⟨o, H4, I4, ps, eo, e4⟩ => ?_
  subst eo e4
  have I5 : Inv X pins σ H4 { s4 with heap := s4.heap.push { cls := .type "slice", data := .fields #[vl, vu, vs] } } := I4.kept (t' := s4.toks) fun b ob q => Heap.get?_push_of_some _ q
  show wpAny (model X.prog X.w) X.A (subscriptTail e (.Slice none none (some (.UnaryOp .USub (.Constant (.int 1) k p1) p2)) p3) (.ref a) (.ref s4.heap.objs.size)) (EP X pins σ Q) X.xe { s4 with heap := s4.heap.push { cls := .type "slice", data := .fields #[vl, vu, vs] } }
  rcases hq with ⟨hx, q⟩ | ⟨hx, q⟩
  · obtain ⟨its, r, ht, hz⟩ := I5.list hx
    have hlen := r.length
    refine tail_any (ops := [.ref a, .ref s4.heap.objs.size]) ht.isList.typeIs (PySem.slot_list_getitem.lookup) ?_ (by with_unfolding_all rfl)
    refine wpAny_getItem_list_slice ht.isList (Heap.IsSliceOf.new _ vl vu vs) pl pu ps (by decide) ?_ (by rw [List.size_toArray]; omega)
    rw [PySem.W.krv_pick]
    refine ⟨.ref _, _, I5.laid (t' := s4.toks) (o := .lst xs.reverse) (fun b ob q => Heap.get?_push_of_some _ q) (Nat.le_refl _) ?_, rfl, q _ (I5.hok.fresh (Nat.le_refl _))⟩
    exact ⟨by rw [List.length_reverse]; exact hz, _, 0, r.reverse, Heap.get?_push_size _ rfl⟩
  · obtain ⟨its, r, ht, hz⟩ := I5.tuple hx
    have hlen := r.length
    refine tail_any (ops := [.ref a, .ref s4.heap.objs.size]) ht.typeIs (PyProof.Rows.slot_tuple_getitem.lookup) ?_ (by with_unfolding_all rfl)
    refine HT.getItem_tuple_rev ht (Heap.IsSliceOf.new _ vl vu vs) pl pu ps ?_ (by rw [List.size_toArray]; omega)
    refine ⟨.ref _, _, I5.laid (t' := s4.toks) (o := .tup xs.reverse) (fun b ob q => Heap.get?_push_of_some _ q) (Nat.le_refl _) ?_, rfl, q _ (I5.hok.fresh (Nat.le_refl _))⟩
    exact ⟨by rw [List.length_reverse]; exact hz, _, r.reverse, IsTup.new _ _⟩
end
end L2
namespace Sf
open PySem PySem.Spec PyProof.Rows L2
def oRevA (m : Bool) : Op1 := fun x S => match x with
  | .tup l => some (.tup l.reverse, S)
  | x => oRev m x S
section
variable {X : Cx} {w : Wx} {e : Expr} {fe : FE} {pos : Pos}
theorem se_revA {m : Bool} {k : Nat} {p1 p2 p3 : Pos} (he : SE X w e fe) : SE X w (.Subscript e (.Slice none none (some (.UnaryOp .USub (.Constant (.int 1) k p1) p2)) p3) pos) (fOp1 (oRevA m) fe) :=
  PE.imp (pe_revA he) fun σ H Q ⟨B, L, ρ, S, env, A, gg⟩ => go_op1 (X := X) (r := fun x H1 Q => ∃ a xs, x = .ref a ∧ ((SqL X.K H1 a xs ∧ ∀ p, H1 p = none → Q (.ref p) (upd H1 p (.lst xs.reverse))) ∨ (SqT X.K H1 a xs ∧ ∀ p, H1 p = none → Q (.ref p) (upd H1 p (.tup xs.reverse))))) (fun B L ρ S S' H d d' x Q R r e q => by
    have gen : oRev m d S = some (d', S') → ∃ a xs, x = .ref a ∧ ((SqL X.K H a xs ∧ ∀ p, H p = none → Q (.ref p) (upd H p (.lst xs.reverse))) ∨ (SqT X.K H a xs ∧ ∀ p, H p = none → Q (.ref p) (upd H p (.tup xs.reverse)))) := by
      intro e
      unfold oRev at e
      cases e1 : lsR d S with
      | none => rw [e1] at e; cases e
      | some l =>
        rw [e1] at e
        obtain ⟨a, vs, rfl, h1, h2⟩ := lsR_ok (G := pg X) R r e1
        exact ⟨a, vs, rfl, .inl ⟨h1, (mkL_ok R h2.reverse e q).2⟩⟩
    cases r with
    | @tup a vs ds h1 h2 =>
      cases e
      exact ⟨a, vs, rfl, .inr ⟨h1.sq, mkT_ok R h2.reverse q⟩⟩
    | _ => exact gen e) A gg
end
end Sf
end

section
set_option Elab.async false
set_option maxRecDepth 100000
set_option linter.all false
/-! Sp: the combinators as rules for simp. -/
namespace Sf
open PySem PySem.Spec PyProof.Rows L2
section
variable {α β : Type} {env : En} {S : Sto} {a b c : FE} {ft ft' : FT} {fs fr : FA} {f g : FS}
@[simp] theorem x_bind {x : α} {k : α → Sto → Out β} : (Out.ok x S).bind k = k x S := rfl
@[simp] theorem x_bindS {x : α} {k : α → Sto → SR} : (Out.ok x S).bindS k = k x S := rfl
@[simp] theorem x_bindN {k : En → Sto → SR} : (SR.nx env S).bindN k = k env S := rfl
@[simp] theorem x_bindNr {d : D} {k : En → Sto → SR} : (SR.rt d S).bindN k = .rt d S := rfl
@[simp] theorem x_bindNb {k : En → Sto → SR} : (SR.bk env S).bindN k = .bk env S := rfl
@[simp] theorem x_bindNc {k : En → Sto → SR} : (SR.ct env S).bindN k = .ct env S := rfl
@[simp] theorem x_var {i : Nat} : fVar i env S = match env[i]? with
  | some d => match d with
    | .und => .bad
    | d => .ok d S
  | none => .bad := rfl
@[simp] theorem x_con {d : D} : fCon d env S = .ok d S := rfl
@[simp] theorem x_outO {x : α} : outO (some (x, S)) = .ok x S := rfl
@[simp] theorem x_op1 {o : Op1} : fOp1 o a env S = (a env S).bind fun x S1 => outO (o x S1) := rfl
@[simp] theorem x_op2 {o : Op2} : fOp2 o a b env S = (a env S).bind fun x S1 => (b env S1).bind fun y S2 => outO (o x y S2) := rfl
@[simp] theorem x_nil : fNil env S = .ok [] S := rfl
@[simp] theorem x_cons : fCons a fs env S = (a env S).bind fun x S1 => (fs env S1).bind fun xs S2 => .ok (x :: xs) S2 := rfl
@[simp] theorem x_opN {o : OpN} : fOpN o fs env S = (fs env S).bind fun xs S1 => outO (o xs S1) := rfl
@[simp] theorem x_val : tVal a env S = (a env S).bind fun x S1 => match x with
  | .bl b => .ok b S1
  | _ => .bad := rfl
@[simp] theorem x_and : Sf.tAnd ft ft' env S = (ft env S).bind fun x S1 => bif x then ft' env S1 else .ok false S1 := rfl
@[simp] theorem x_or : Sf.tOr ft ft' env S = (ft env S).bind fun x S1 => bif x then .ok true S1 else ft' env S1 := rfl
@[simp] theorem x_not : Sf.tNot ft env S = (ft env S).bind fun x S1 => .ok (!x) S1 := rfl
@[simp] theorem x_if : fIf ft a b env S = (ft env S).bind fun x S1 => bif x then a env S1 else b env S1 := rfl
@[simp] theorem x_fand : fAnd a b env S = (a env S).bind fun x S1 => match x with
  | .bl c => bif c then b env S1 else .ok (.bl false) S1
  | _ => .bad := rfl
@[simp] theorem x_for : fOr a b env S = (a env S).bind fun x S1 => match x with
  | .bl c => bif c then .ok (.bl true) S1 else b env S1
  | _ => .bad := rfl
@[simp] theorem x_fnot : fNot a env S = (a env S).bind fun x S1 => match x with
  | .bl c => .ok (.bl (!c)) S1
  | _ => .bad := rfl
@[simp] theorem x_skip : sSkip env S = .nx env S := rfl
@[simp] theorem x_seq : sSeq f g env S = (f env S).bindN g := rfl
@[simp] theorem x_break : sBreak env S = .bk env S := rfl
@[simp] theorem x_cont : sCont env S = .ct env S := rfl
@[simp] theorem x_expr : sExpr a env S = (a env S).bindS fun _ S1 => .nx env S1 := rfl
@[simp] theorem x_ret : sRet a env S = (a env S).bindS fun x S1 => .rt x S1 := rfl
@[simp] theorem x_sif : sIf ft f g env S = (ft env S).bindS fun x S1 => bif x then f env S1 else g env S1 := rfl
@[simp] theorem x_asg {i : Nat} : sAsg i a env S = (a env S).bindS fun x S1 => .nx (env.set i x) S1 := rfl
@[simp] theorem x_asgT {is : List Nat} : sAsgT is a env S = (a env S).bindS fun x S1 => match unTup is x env with
  | some env' => .nx env' S1
  | none => .bad := rfl
@[simp] theorem x_unTup {is : List Nat} {l : List D} : unTup is (.tup l) env = bif Nat.beq l.length is.length then some (setAllE env is l) else none := rfl
@[simp] theorem x_set1 {i : Nat} {is : List Nat} {d : D} {l : List D} : setAllE env (i :: is) (d :: l) = setAllE (env.set i d) is l := rfl
@[simp] theorem x_set0 : setAllE env [] [] = env := rfl
@[simp] theorem x_par2 {i j : Nat} : sPar2 i j fs env S = (fs env S).bindS fun xs S1 => bif len2 xs then .nx (setAllE env [i, j] xs) S1 else .bad := rfl
@[simp] theorem x_par3 {i j k : Nat} : sPar3 i j k fs env S = (fs env S).bindS fun xs S1 => bif len3 xs then .nx (setAllE env [i, j, k] xs) S1 else .bad := rfl
@[simp] theorem x_len2 {x y : D} : len2 [x, y] = true := rfl
@[simp] theorem x_len3 {x y z : D} : len3 [x, y, z] = true := rfl
@[simp] theorem x_asgIx : sAsgIx a b c env S = (a env S).bindS fun x S1 => (b env S1).bindS fun o S2 => (c env S2).bindS fun i S3 => match setO o i x S3 with
  | some S4 => .nx env S4
  | none => .bad := rfl
@[simp] theorem x_aug {i : Nat} {o : Op2} : sAug i o a env S = (fVar i env S).bindS fun x S1 => (a env S1).bindS fun y S2 => match o x y S2 with
  | some (z, S3) => .nx (env.set i z) S3
  | none => .bad := rfl
@[simp] theorem x_augIx {o : Op2} : sAugIx o a b c env S = (a env S).bindS fun o' S1 => (b env S1).bindS fun i S2 => augK o c env o' i S2 := rfl
@[simp] theorem x_augK {o : Op2} {n : Nat} {k : Int} : augK o a env (.loc n) (.int k) S = match oIx (.loc n) (.int k) S with
    | some (x, S3) => (a env S3).bindS fun y S4 => augJ o env (.loc n) (.int k) x y S4
    | none => .bad := rfl
@[simp] theorem x_augJ {o : Op2} {d i x y : D} : augJ o env d i x y S = match o x y S with
  | some (z, S5) => sto env (setO d i z S5)
  | none => .bad := rfl
@[simp] theorem x_sto : sto env (some S) = .nx env S := rfl
@[simp] theorem x_tup : fTup fs env S = (fs env S).bind fun xs S1 => bif fit xs.length then .ok (.tup xs) S1 else .bad := rfl
@[simp] theorem x_lst {m : Bool} : fLst m fs env S = (fs env S).bind fun xs S1 => outO (mkL m xs S1) := rfl
@[simp] theorem x_call {F : Fn} : fCall F fs env S = (fs env S).bind fun ds S1 => F ds S1 := rfl
@[simp] theorem x_chain {p q : Int → Int → Bool} : fChain p q a b c env S = (a env S).bind fun x S1 => (b env S1).bind fun y S2 => match x, y with
  | .int i, .int j => bif p i j then (c env S2).bind fun z S3 => (match z with
      | .int k => .ok (.bl (q j k)) S3
      | _ => .bad) else .ok (.bl false) S2
  | _, _ => .bad := rfl
@[simp] theorem x_iSq : iSq a env S = (a env S).bind fun x S1 => match itemsD x with
  | some l => .ok l S1
  | none => .bad := rfl
@[simp] theorem x_iOf {k : List D → Option (List D)} : iOf k fs env S = (fs env S).bind fun xs S1 => match k xs with
  | some l => .ok l S1
  | none => .bad := rfl
@[simp] theorem x_tgName {i : Nat} {d : D} : tgName i d env = some (env.set i d) := rfl
@[simp] theorem x_for_ {g : D → En → Option En} : sFor fs g f env S = (fs env S).bindS fun l S1 => forL g f l env S1 := rfl
@[simp] theorem x_yes : tYesF env S = .ok true S := rfl
@[simp] theorem x_comp {m : Bool} {g : D → En → Option En} {vs : List Nat} : fComp m fs g ft a vs env S = (fs env S).bind fun l S1 => bif fit l.length then
  (match compL g ft a (undE env vs) l S1 with
  | .ok xs S2 => bif m then .ok (.loc S2.length) (S2 ++ [.lst xs]) else .ok (.lst xs) S2
  | _ => .bad) else .bad := rfl
@[simp] theorem x_und0 : undE env [] = env := rfl
@[simp] theorem x_und1 {v : Nat} {vs : List Nat} : undE env (v :: vs) = (undE env vs).set v .und := rfl
/-! the operations -/
@[simp] theorem x_add {m : Bool} {i j : Int} : oAdd m (.int i) (.int j) S = some (.int (i + j), S) := rfl
@[simp] theorem x_addI {i j : Int} : oAddI (.int i) (.int j) S = some (.int (i + j), S) := rfl
@[simp] theorem x_sub {i j : Int} : oSub (.int i) (.int j) S = some (.int (i - j), S) := rfl
theorem x_mul {m : Bool} {i j : Int} : oMul m (.int i) (.int j) S = bif mulOk i j then some (.int (i * j), S) else none := rfl
theorem x_mod {i j : Int} : oMod (.int i) (.int j) S = bif (decide (0 < j)) then some (.int (i % j), S) else none := rfl
theorem x_fdiv {i j : Int} : oFdiv (.int i) (.int j) S = bif (decide (0 < j)) && Nat.blt j.natAbs.log2 9000 then some (.int (i / j), S) else
      bif (decide (j < 0)) && Nat.blt j.natAbs.log2 9000 then some (.int (i.fdiv j), S) else none := rfl
@[simp] theorem x_neg {i : Int} : oNeg (.int i) S = some (.int (-i), S) := rfl
@[simp] theorem x_ixT {i : Int} {l : List D} : oIx (.tup l) (.int i) S = match ixD l i with
      | some d => some (d, S)
      | none => none := rfl
@[simp] theorem x_ixL {i : Int} {l : List D} : oIx (.lst l) (.int i) S = match ixD l i with
      | some d => some (d, S)
      | none => none := rfl
@[simp] theorem x_ixS {i : Int} {l : List D} : oIx (.scr l) (.int i) S = match ixD l i with
      | some d => some (d, S)
      | none => none := rfl
@[simp] theorem x_ix0 {l : List D} : ixD l 0 = l[0]? := rfl
@[simp] theorem x_ix1 {l : List D} : ixD l 1 = l[1]? := rfl
@[simp] theorem x_ix2 {l : List D} : ixD l 2 = l[2]? := rfl
@[simp] theorem x_ix3 {l : List D} : ixD l 3 = l[3]? := rfl
@[simp] theorem x_ix4 {l : List D} : ixD l 4 = l[4]? := rfl
@[simp] theorem x_gt {i j : Int} : oGt (.int i) (.int j) S = some (.bl (decide (j < i)), S) := rfl
@[simp] theorem x_ge {i j : Int} : oGe (.int i) (.int j) S = some (.bl (decide (j ≤ i)), S) := rfl
@[simp] theorem x_lt {i j : Int} : oLt (.int i) (.int j) S = some (.bl (decide (i < j)), S) := rfl
@[simp] theorem x_le {i j : Int} : oLe (.int i) (.int j) S = some (.bl (decide (i ≤ j)), S) := rfl
@[simp] theorem x_eqI {i j : Int} : oEq (.int i) (.int j) S = some (.bl (decide (i = j)), S) := rfl
@[simp] theorem x_neI {i j : Int} : oNe (.int i) (.int j) S = some (.bl (!decide (i = j)), S) := rfl
@[simp] theorem x_eqN {i : Int} : oEq (.int i) .non S = some (.bl false, S) := rfl
@[simp] theorem x_neN {i : Int} : oNe (.int i) .non S = some (.bl true, S) := rfl
@[simp] theorem x_eqN' {i : Int} : oEq .non (.int i) S = some (.bl false, S) := rfl
@[simp] theorem x_neN' {i : Int} : oNe .non (.int i) S = some (.bl true, S) := rfl
@[simp] theorem x_eqNN : oEq .non .non S = some (.bl true, S) := rfl
@[simp] theorem x_neNN : oNe .non .non S = some (.bl false, S) := rfl
@[simp] theorem x_isN {d : D} : oIs d .non S = some (.bl (isNon d), S) := rfl
@[simp] theorem x_isNN {d : D} : oIsN d .non S = some (.bl (!isNon d), S) := rfl
@[simp] theorem x_isB {a b : Bool} : oIs (.bl a) (.bl b) S = some (.bl (a == b), S) := rfl
@[simp] theorem x_isNB {a b : Bool} : oIsN (.bl a) (.bl b) S = some (.bl (!(a == b)), S) := rfl
@[simp] theorem x_isNon0 : isNon .non = true := rfl
@[simp] theorem x_isNonI {i : Int} : isNon (.int i) = false := rfl
@[simp] theorem x_isNonT {l : List D} : isNon (.tup l) = false := rfl
@[simp] theorem x_isNonL {l : List D} : isNon (.lst l) = false := rfl
@[simp] theorem x_lenT {l : List D} : oLen [.tup l] S = some (.int l.length, S) := rfl
@[simp] theorem x_lenL {l : List D} : oLen [.lst l] S = some (.int l.length, S) := rfl
@[simp] theorem x_lenS {l : List D} : oLen [.scr l] S = some (.int l.length, S) := rfl
@[simp] theorem x_tupT {l : List D} : oTuple [.tup l] S = some (.tup l, S) := rfl
@[simp] theorem x_tupL {l : List D} : oTuple [.lst l] S = some (.tup l, S) := rfl
@[simp] theorem x_itemsT {l : List D} : itemsD (.tup l) = some l := rfl
@[simp] theorem x_itemsL {l : List D} : itemsD (.lst l) = some l := rfl
@[simp] theorem x_itemsS {l : List D} : itemsD (.scr l) = some l := rfl
/-! functions -/
theorem fit_of {n : Nat} (h : n ≤ 16777216) : fit n = true := Nat.ble_eq_true_of_le h
/-- a function that made nothing new -/
theorem endF_same {d : D} : endF S.length d S = .ok d S := by unfold endF; rw [show Nat.beq S.length S.length = true from Nat.beq_refl _]; rfl
/-- a function without a store -/
theorem pure_eq {F : Fn} {ds : List D} {d : D} (hl : lowL 0 ds = true) (h : F ds [] = .ok d []) : pureF F ds S = .ok d S := by
  unfold pureF; rw [hl, h]; rfl
theorem lowL_map (f : α → D) (h : ∀ x, lowD 0 (f x) = true) : ∀ l : List α, lowL 0 (l.map f) = true
  | [] => rfl
  | x :: l => by
    rw [List.map_cons]; show (lowD 0 (f x) && lowL 0 (l.map f)) = true
    rw [h x, lowL_map f h l]; rfl
end
end Sf
end

section
set_option Elab.async false
set_option maxRecDepth 100000
set_option linter.all false
/-! Sq: trees of numbers; equality; items. -/
namespace Sf
open PySem PySem.Spec PyProof.Rows L2
/-! a tree of numbers, bools, None, tuples and lists -/
mutual
def pl : Nat → D → Bool
  | _, .non => true
  | _, .bl _ => true
  | _, .int _ => true
  | n + 1, .tup l => plL n l
  | n + 1, .lst l => plL n l
  | n + 1, .scr l => plL n l
  | _, _ => false
def plL : Nat → List D → Bool
  | _, [] => true
  | n, d :: ds => pl n d && plL n ds
end
mutual
theorem pl_ok : ∀ (n : Nat) (d : D), pl n d = true → ∃ p, D.py d = some p ∧ p.canLay0 = true ∧ p.depth ≤ n
  | n, .und, h => by cases n <;> cases h
  | n, .non, h => ⟨_, rfl, rfl, Nat.zero_le _⟩
  | n, .bl _, h => ⟨_, rfl, rfl, Nat.zero_le _⟩
  | n, .int _, h => ⟨_, rfl, rfl, Nat.zero_le _⟩
  | n, .str _, h => by cases n <;> cases h
  | 0, .tup l, h => by cases h
  | n + 1, .tup l, h => by
    obtain ⟨ps, h1, h2, h3⟩ := plL_ok n l h
    exact ⟨.tuple ps, by unfold D.py; rw [h1]; rfl, by unfold PyData.canLay0; exact h2, by unfold PyData.depth; omega⟩
  | 0, .lst l, h => by cases h
  | n + 1, .lst l, h => by
    obtain ⟨ps, h1, h2, h3⟩ := plL_ok n l h
    exact ⟨.list ps, by unfold D.py; rw [h1]; rfl, by unfold PyData.canLay0; exact h2, by unfold PyData.depth; omega⟩
  | 0, .scr l, h => by cases h
  | n + 1, .scr l, h => by
    obtain ⟨ps, h1, h2, h3⟩ := plL_ok n l h
    exact ⟨.list ps, by unfold D.py; rw [h1]; rfl, by unfold PyData.canLay0; exact h2, by unfold PyData.depth; omega⟩
  | n, .loc _, h => by cases n <;> cases h
  | n, .glob _, h => by cases n <;> cases h
theorem plL_ok : ∀ (n : Nat) (l : List D), plL n l = true → ∃ ps, D.pys l = some ps ∧ PyData.canLayAll0 ps = true ∧ PyData.depthAll ps ≤ n
  | n, [], _ => ⟨[], by simp [D.pys], rfl, Nat.zero_le _⟩
  | n, d :: l, h => by
    have h : pl n d = true ∧ plL n l = true := by
      have : (pl n d && plL n l) = true := by rw [← h]; cases n <;> simp [plL]
      simpa using this
    obtain ⟨p, h1, h2, h3⟩ := pl_ok n d h.1
    obtain ⟨ps, k1, k2, k3⟩ := plL_ok n l h.2
    exact ⟨p :: ps, by unfold D.pys; rw [h1, k1], by unfold PyData.canLayAll0; rw [h2, k2]; rfl, by unfold PyData.depthAll; omega⟩
end
theorem deref_pl {n : Nat} {d : D} {S : Sto} (h : pl n d = true) : deref S d = d := by
  cases d <;> first | rfl | (cases n <;> cases h)
theorem eqB_gen {x y : D} {S : Sto} {p q : PyData} (h1 : D.py (deref S x) = some p) (h2 : D.py (deref S y) = some q) (hp : SeqAt.shaped p = true) (hq : SeqAt.shaped q = true) : eqB x y S = some (PyData.eqv p q) := by
  unfold eqB
  split
  · cases h1; cases h2; simp [PyData.eqv, Bool.beq_eq_decide_eq]
  · cases h1; cases h2; simp [PyData.eqv]
  · cases h1; cases h2; simp [PyData.eqv]
  · cases h1; cases h2; simp [PyData.eqv]
  · cases h1; cases h2; simp [PyData.eqv]
  · cases h1; cases h2
    unfold PyData.eqv
    rename_i a b
    by_cases h : a = b
    · rw [decide_eq_true h, h]; simp
    · rw [decide_eq_false h]; simp [h]
  · rw [h1, h2]; simp only; rw [hp, hq]; rfl
theorem eqB_pl {n : Nat} {d e : D} {S : Sto} (h : pl n d = true) (h' : pl n e = true) (hn : n ≤ 64) : ∃ p q, D.py d = some p ∧ D.py e = some q ∧ p.canLay0 = true ∧ q.canLay0 = true ∧ eqB d e S = some (PyData.eqv p q) := by
  obtain ⟨p, h1, h2, h3⟩ := pl_ok n d h
  obtain ⟨q, k1, k2, k3⟩ := pl_ok n e h'
  exact ⟨p, q, h1, k1, h2, k2, eqB_gen (by rw [deref_pl h]; exact h1) (by rw [deref_pl h']; exact k1) (by unfold SeqAt.shaped; rw [h2]; simp; omega) (by unfold SeqAt.shaped; rw [k2]; simp; omega)⟩
theorem eqB_self {n : Nat} {d : D} {S : Sto} (h : pl n d = true) (hn : n ≤ 64) : eqB d d S = some true := by
  obtain ⟨p, q, h1, h2, h3, h4, e⟩ := eqB_pl (S := S) h h hn
  rw [h1] at h2; cases h2
  rw [e, SeqAt.eqv_refl p h3]
theorem oEq_self {n : Nat} {d : D} {S : Sto} (h : pl n d = true) (hn : n ≤ 64) : oEq d d S = some (.bl true, S) := by unfold oEq; rw [eqB_self h hn]
theorem oNe_self {n : Nat} {d : D} {S : Sto} (h : pl n d = true) (hn : n ≤ 64) : oNe d d S = some (.bl false, S) := by unfold oNe; rw [eqB_self h hn]; rfl
theorem plL_map {α : Type} {n : Nat} (f : α → D) (h : ∀ x, pl n (f x) = true) : ∀ l : List α, plL n (l.map f) = true
  | [] => by cases n <;> simp [plL]
  | x :: l => by
    have : plL n (f x :: l.map f) = (pl n (f x) && plL n (l.map f)) := by cases n <;> simp [plL]
    rw [List.map_cons, this, h x, plL_map f h l]; rfl
theorem pl_int {n : Nat} {i : Int} : pl n (.int i) = true := by cases n <;> simp [pl]
theorem pl_non {n : Nat} : pl n .non = true := by cases n <;> simp [pl]
theorem plL_ints {n : Nat} (l : List Int) : plL n (l.map D.int) = true := plL_map D.int (fun _ => pl_int) l
theorem pys_ints : ∀ l : List Int, D.pys (l.map D.int) = some (l.map PyData.int)
  | [] => by simp [D.pys]
  | i :: l => by
    rw [List.map_cons]; unfold D.pys; rw [pys_ints l]; rfl
theorem eqScr0 {l : List Int} {S : Sto} : oEq (.scr (l.map D.int)) (.lst []) S = some (.bl l.isEmpty, S) := by
  obtain ⟨p, q, h1, h2, h3, h4, e⟩ := eqB_pl (S := S) (n := 1) (d := .scr (l.map D.int)) (e := .lst []) (plL_ints l) rfl (by omega)
  unfold oEq
  rw [e]
  unfold D.py at h1 h2
  rw [pys_ints] at h1
  cases h1
  rw [show D.pys [] = some [] from by simp [D.pys]] at h2
  cases h2
  cases l <;> simp [PyData.eqv, PyData.eqvAll]
theorem intsD_ints : ∀ l : List Int, intsD (l.map D.int) = some l
  | [] => by simp [intsD]
  | i :: l => by rw [List.map_cons]; unfold intsD; rw [intsD_ints l]
theorem blsD_bls : ∀ l : List Bool, blsD (l.map D.bl) = some l
  | [] => by simp [blsD]
  | i :: l => by rw [List.map_cons]; unfold blsD; rw [blsD_bls l]
@[simp] theorem x_ixn20 : ixN 2 0 = some 0 := rfl
@[simp] theorem x_ixn21 : ixN 2 1 = some 1 := rfl
section
variable {S : Sto}
@[simp] theorem x_ixLoc {n : Nat} {i : Int} : oIx (.loc n) (.int i) S = match lsW (.loc n) S with
      | some l => (match ixD l i with
        | some d => some (d, S)
        | none => none)
      | none => none := rfl
@[simp] theorem x_lsWL {n : Nat} : lsW (.loc n) S = match S[n]? with
    | some (.lst l) => some l
    | _ => none := rfl
@[simp] theorem x_setO {n : Nat} {k : Int} {v : D} : setO (.loc n) (.int k) v S = match S[n]? with
    | some (.lst l) => (match ixN l.length k with
      | some j => some (S.set n (.lst (l.set j v)))
      | none => none)
    | _ => none := rfl
@[simp] theorem x_mkF {l : List D} : mkL false l S = bif fit l.length then some (.lst l, S) else none := rfl
@[simp] theorem x_mkT {l : List D} : mkL true l S = bif fit l.length then some (.loc S.length, S ++ [.lst l]) else none := rfl
@[simp] theorem x_fit0 : fit 0 = true := rfl
@[simp] theorem x_fit1 : fit 1 = true := rfl
@[simp] theorem x_fit2 : fit 2 = true := rfl
@[simp] theorem x_fit3 : fit 3 = true := rfl
@[simp] theorem x_fit4 : fit 4 = true := rfl
@[simp] theorem x_fit5 : fit 5 = true := rfl
@[simp] theorem x_fit6 : fit 6 = true := rfl
@[simp] theorem x_fit7 : fit 7 = true := rfl
@[simp] theorem x_fit8 : fit 8 = true := rfl
@[simp] theorem x_fit9 : fit 9 = true := rfl
@[simp] theorem x_fit10 : fit 10 = true := rfl
@[simp] theorem x_fit11 : fit 11 = true := rfl
@[simp] theorem x_fit12 : fit 12 = true := rfl
@[simp] theorem x_tupLoc {n : Nat} : oTuple [.loc n] S = match lsW (.loc n) S with
    | some l => some (.tup l, S)
    | none => none := rfl
def forK (g : D → En → Option En) (b : FS) (r : List D) : SR → SR
      | .nx env' S' => forL g b r env' S'
      | .ct env' S' => forL g b r env' S'
      | .bk env' S' => .nx env' S'
      | r => r
theorem forL_cons {g : D → En → Option En} {b : FS} {d : D} {r : List D} {env env1 : En} (h : g d env = some env1) : forL g b (d :: r) env S = forK g b r (b env1 S) := by
  show (match g d env with
    | none => SR.bad
    | some env1 => forK g b r (b env1 S)) = _
  rw [h]
theorem enumL_cons {k : Nat} {d : D} {l : List D} : enumL k (d :: l) = .tup [.int k, d] :: enumL (k + 1) l := rfl
theorem end_rt {d : D} {n : Nat} (h : S.length = n) : fnEnd false n (.rt d S) = .ok d S := by subst h; exact endF_same
theorem ix_nn {l : List D} {i : Int} (h : 0 ≤ i) : ixD l i = l[i.toNat]? := by unfold ixD; rw [decide_eq_true h]; rfl
theorem ix_int {l : List Int} {i : Int} (h : 0 ≤ i) (h' : i < l.length) : ∃ k, l[i.toNat]? = some k ∧ ixD (l.map D.int) i = some (.int k) := by
  refine ⟨l[i.toNat]'(by omega), List.getElem?_eq_getElem _, ?_⟩
  rw [ix_nn h, List.getElem?_map, List.getElem?_eq_getElem (show i.toNat < l.length by omega)]; rfl
theorem mul_r {m : Bool} {i j : Int} (h : Nat.blt j.natAbs 18446744073709551616 = true) : oMul m (.int i) (.int j) S = some (.int (i * j), S) := by
  rw [x_mul]; unfold mulOk; rw [h]; simp
theorem mul_l {m : Bool} {i j : Int} (h : Nat.blt i.natAbs 18446744073709551616 = true) : oMul m (.int i) (.int j) S = some (.int (i * j), S) := by
  rw [x_mul]; unfold mulOk; rw [h]; simp
theorem mod_ok {i j : Int} (h : 0 < j) : oMod (.int i) (.int j) S = some (.int (i % j), S) := by rw [x_mod, decide_eq_true h]; rfl
theorem log_small {j : Int} (h : 0 < j) (h' : j < 1000000) : Nat.blt j.natAbs.log2 9000 = true := by
  have : j.natAbs.log2 < 20 := by rw [Nat.log2_lt (by omega)]; omega
  exact Nat.ble_eq_true_of_le (by omega)
theorem fdiv_ok {i j : Int} (h : 0 < j) (h' : j < 1000000) : oFdiv (.int i) (.int j) S = some (.int (i / j), S) := by
  rw [x_fdiv, decide_eq_true h, log_small h h']; rfl
end
mutual
theorem frz_pl {S : Sto} {m : Nat} : ∀ (d : D) (n k : Nat), pl n d = true → n < k → frzD k S m d = some d
  | .und, n, k, h, _ => by cases n <;> cases h
  | .non, n, k + 1, h, _ => rfl
  | .bl _, n, k + 1, h, _ => rfl
  | .int _, n, k + 1, h, _ => rfl
  | .str _, n, k, h, _ => by cases n <;> cases h
  | .tup l, 0, k, h, _ => by cases h
  | .lst l, 0, k, h, _ => by cases h
  | .scr l, 0, k, h, _ => by cases h
  | .tup l, n + 1, k + 1, h, hk => by
    show (mapO (frzD k S m) l).map D.tup = _
    rw [frz_plL l n k h (by omega)]; rfl
  | .lst l, n + 1, k + 1, h, hk => by
    show (mapO (frzD k S m) l).map D.lst = _
    rw [frz_plL l n k h (by omega)]; rfl
  | .scr l, n + 1, k + 1, h, hk => by
    show (mapO (frzD k S m) l).map D.scr = _
    rw [frz_plL l n k h (by omega)]; rfl
  | .loc _, n, k, h, _ => by cases n <;> cases h
  | .glob _, n, k, h, _ => by cases n <;> cases h
theorem frz_plL {S : Sto} {m : Nat} : ∀ (l : List D) (n k : Nat), plL n l = true → n < k → mapO (frzD k S m) l = some l
  | [], n, k, h, _ => rfl
  | d :: l, n, k, h, hk => by
    have h : pl n d = true ∧ plL n l = true := by
      have : (pl n d && plL n l) = true := by rw [← h]; cases n <;> simp [plL]
      simpa using this
    show (match frzD k S m d, mapO (frzD k S m) l with
    | some x, some xs => some (x :: xs)
    | _, _ => none) = _
    rw [frz_pl d n k h.1 hk, frz_plL l n k h.2 hk]
end
theorem end_pl {n : Nat} {d : D} {S : Sto} (h : pl n d = true) (hn : n < 9) : fnEnd false 0 (.rt d S) = .ok d [] := by
  show endF 0 d S = _
  unfold endF
  cases S with
  | nil => rfl
  | cons a S =>
    rw [frz_pl d n 9 h hn]; rfl
theorem plL_cons {n : Nat} {d : D} {l : List D} : plL n (d :: l) = (pl n d && plL n l) := by cases n <;> simp [plL]
theorem plL_nil {n : Nat} : plL n [] = true := by cases n <;> simp [plL]
end Sf
end

section
set_option Elab.async false
set_option maxRecDepth 100000
set_option linter.all false
/-! Sx: facts of closed runs, by the kernel. -/
namespace Sf
open PySem PySem.Spec PyProof.Rows L2
mutual
def dEq : D → D → Bool
  | .non, .non => true
  | .bl a, .bl b => a == b
  | .int a, .int b => decide (a = b)
  | .str a, .str b => decide (a = b)
  | .tup a, .tup b => dEqs a b
  | .lst a, .lst b => dEqs a b
  | _, _ => false
def dEqs : List D → List D → Bool
  | [], [] => true
  | a :: as, b :: bs => dEq a b && dEqs as bs
  | _, _ => false
end
mutual
theorem dEq_ok : ∀ (a b : D), dEq a b = true → a = b
  | .non, b, h => by cases b <;> first | rfl | (simp [dEq] at h)
  | .bl a, b, h => by cases b <;> first | (simp [dEq] at h; rw [h]) | (simp [dEq] at h)
  | .int a, b, h => by cases b <;> first | (simp [dEq] at h; rw [h]) | (simp [dEq] at h)
  | .str a, b, h => by cases b <;> first | (simp [dEq] at h; rw [h]) | (simp [dEq] at h)
  | .tup a, b, h => by
    cases b with
    | tup b => simp only [dEq] at h; rw [dEqs_ok a b h]
    | _ => simp [dEq] at h
  | .lst a, b, h => by
    cases b with
    | lst b => simp only [dEq] at h; rw [dEqs_ok a b h]
    | _ => simp [dEq] at h
  | .und, b, h => by cases b <;> simp [dEq] at h
  | .scr _, b, h => by cases b <;> simp [dEq] at h
  | .loc _, b, h => by cases b <;> simp [dEq] at h
  | .glob _, b, h => by cases b <;> simp [dEq] at h
theorem dEqs_ok : ∀ (a b : List D), dEqs a b = true → a = b
  | [], [], _ => rfl
  | [], _ :: _, h => by simp [dEqs] at h
  | _ :: _, [], h => by simp [dEqs] at h
  | a :: as, b :: bs, h => by
    simp only [dEqs, Bool.and_eq_true] at h
    rw [dEq_ok a b h.1, dEqs_ok as bs h.2]
end
def chk (r : Out D) (d : D) : Bool := match r with
  | .ok e [] => dEq e d
  | _ => false
theorem chk_ok {r : Out D} {d : D} (h : chk r d = true) : r = .ok d [] := by
  unfold chk at h
  cases r with
  | ok e S =>
    cases S with
    | nil => rw [dEq_ok e d h]
    | cons => cases h
  | exc => cases h
  | bad => cases h
/-- a closed run -/
theorem pure_chk {F : Fn} {ds : List D} {d : D} {S : Sto} (h : (lowL 0 ds && chk (F ds []) d) = true) : pureF F ds S = .ok d S := by
  rw [Bool.and_eq_true] at h
  exact pure_eq h.1 (chk_ok h.2)
end Sf
end

section
set_option Elab.async false
set_option maxRecDepth 100000
set_option linter.all false
/-! Se1: own exceptions: raise, the caught one's class, try. -/
namespace L2
open PySem PySem.Spec PyProof.Rows
section
variable {X : Cx}
/-- X(): an own exception class, nothing handed in -/
theorem pmk_own0 {C : Addr} {bmB : List Value} {B newId initId : String} {x : Str} {p pos : Pos} (F : ExcBaseFacts B newId initId bmB) (q : PySem.W.excIn X.K C bmB newId = true) (gC : X.mg x = some (.ref C))
    (kC : PySem.W.keepIn X.K (.ref C) = true) (r : Raises X (.ref C)) (hg : Gl X x) (hdb : (x == ("__debug__" : Str)) = false := by decide) :
    PMk X (.Call (.Name x p) [] [] pos) (fun _ H Q => Q (.ref C) none H) := by
  intro pins s σ H Q I h
  refine wpAny_Call_Name_kw (ld_glob I hg gC ?_ hdb)
  refine PySem.W.callWith_K0 I.kIn kC ?_
  show wpAny _ _ (call (.ref C) []) _ _ _
  obtain ⟨bm, N, nm, qn, bs, hdct, sn, sub, ab, col, dd, k0, k1, k2, k3, k5, mN, hC, hN, hni, T⟩ := exc_obj I.kIn q
  refine wpAny_call_exc_subT F T hC hN hni (fun h' e hm => ?_) (by simp)
  exact mk_of I hm r h (I.hok.gone hm.new)
/-- l.count(y), flat items -/
def rCountF (K : PySem.W.Frag) : V → List V → Hp → VK → Prop := fun x xs H Q => ∃ (a : Addr) (ys : List V) (y : V), x = V.ref a ∧ xs = [y] ∧ SqL K H a ys ∧ flatV y = true ∧ ys.all flatV = true ∧ Q (.int (ys.countP (fun z => eqV z y) : Nat)) H
theorem countU {y : V} : ∀ {ys : List V} {us : List Value}, Vals ys us → ys.all flatV = true → us.countP (eqU y) = ys.countP fun z => eqV z y
  | [], [], .nil, _ => rfl
  | z :: ys, u :: us, .cons r t, h => by
    rw [List.all_cons, Bool.and_eq_true] at h
    rw [List.countP_cons, List.countP_cons, countU t h.2, eqU_of r h.1]
theorem mt_countF : MtR X "list.count" (rCountF X.K) := by
  intro pins s σ H x xs v us Q I rx rxs h
  obtain ⟨a, ys, y, rfl, rfl, hs, fy, fys, q⟩ := h
  cases rx
  cases rxs with
  | cons ry rt =>
    rename_i uy ut
    cases rt
    obtain ⟨its, rv, ⟨⟨cls, dd, data, sl⟩, n, ho, hc, hdn, hd⟩, hlen⟩ := I.list hs
    simp only at hc hd
    subst hc hd
    refine call_meets PySem.F.slot_list_count ⟨_, ho, rfl⟩ PySem.F.entry_list_count (PySem.F.args_list_count_2 _ _)
      (SeqAt.list_countAt a its.toArray n dd sl uy (eqU y)) ⟨ho, fun u' hu' => mem_eqAt ry fy rv fys u' (by simpa using hu'), ?_⟩
    have ec : its.toArray.toList.countP (eqU y) = ys.countP fun z => eqV z y := countU rv fys
    refine ⟨.int (ys.countP fun z => eqV z y : Nat), H, I.tok _, ⟨s.toks, ?_⟩, q⟩
    show Value.int ((its.toArray.toList.countP (eqU y) : Nat) : Int) s.toks = _
    rw [ec]
end
/-- isinstance(e, c), e an exception that is pinned -/
theorem call_isP {X : Cx} {a D : Addr} {oe : Obj} (C : ExcC X.K D) (hz : Zc (.ref D) none oe) (hf : ∃ vs, oe.data = .fields vs) (hp : (a, oe) ∈ X.pn) : CallR X (.builtin "isinstance") (rIsE X.K D a) := by
  intro pins s σ H xs us Q I r h
  obtain ⟨c, cv, b, rfl, hcv, e, q⟩ := h
  cases r with
  | cons rx rr =>
    cases rr with
    | cons rt rr =>
      cases rr
      cases rx
      have ec := hcv _ rt
      subst ec
      obtain ⟨hget, _⟩ := I.pin (a, oe) (List.mem_append.mpr (.inl hp))
      obtain ⟨vs, hv⟩ := hf
      have J : PySem.W.InstAt s.heap a oe D none := by
        obtain ⟨oc, od, oda, osl⟩ := oe
        obtain ⟨h1, h2⟩ := hz
        dsimp only at h1 h2 hv
        subst h1 h2 hv
        exact ⟨hget, rfl, rfl, trivial⟩
      exact PySem.W.kia_one (PySem.W.handS_kitx_exc C.hg C.hk C.hs C.hd C.ha C.hn C.ht C.hm) I.kIn J e (fun z => nomatch z) fun tk => ⟨.bl b, H, I.kept (t' := tk) fun _ _ z => z, rfl, q⟩
end L2
namespace Sf
open PySem PySem.Spec PyProof.Rows L2
/-- an own exception class over ValueError, its number c -/
structure EC (K : PySem.W.Frag) (mg : Str → Option Value) (xm : XM) (x : Str) (c : Nat) (C : Addr) : Prop where
  g : mg x = some (.ref C)
  xc : xm c = .ref C
  q : PySem.W.excIn K C [.type "ValueError", .type "Exception", .type "BaseException", .type "object"] "ValueError.__new__" = true
  kp : PySem.W.keepIn K (.ref C) = true
  b : PySem.W.subIn K (.ref C) (.type "BaseException") = some true
  t : PySem.W.typeIn K (.ref C) = some (.type "type")
def sRaise (c : Nat) : FS := fun _ S => .xc c S
theorem ss_raise {X : Cx} {w : Wx} {x : Str} {c : Nat} {C : Addr} {p pos pos' : Pos} (E : EC X.K X.mg w.xm x c C) (hc : X.calm = true) (tk : Takes X w.W) (hg : Gl X x := by rfl) (hdb : (x == ("__debug__" : Str)) = false := by decide) :
    SS X w (.Raise (some (.Call (.Name x p) [] [] pos)) none pos') (sRaise c) :=
  PS.imp (ps_raise hc tk (pmk_own0 PySem.F.excBase_ValueError E.q E.g E.kp (raises_own E.b E.t) hg hdb)) fun D σ H ⟨B, L, ρ, S, env, A, g⟩ => by
    have := g σ ρ H Post.refl A.rh
    rw [E.xc] at this
    exact this
/-- what the def that tells a caught exception promises -/
structure FnE (P : Program) (w : World) (K : PySem.W.Frag) (mg : Str → Option Value) (base : Heap) (k : Nat) (f : Addr) (fd : FuncData) (ps : List Str) (cls : Value) (d : D) : Prop where
  len : ps.length = 1
  run : ∀ (A : Around) (outer : List Env) (s : Shared) (H : Hp) (args : Args) (us : List Value) (Q : VK) (E : XK) (p : Addr × Obj), L2H.RoomH k A → Zc cls none p.2 → (∃ vs, p.2.data = .fields vs) → L2H.PinOk outer H s p → Env0 P w K mg base A outer s H → BindsTo s fd args (ps.zip us) → us = [.ref p.1] →
    (∃ B L ρ S, RH ⟨P, w, K⟩ B L ρ H S ∧ ∀ v ρ' H', Post L ρ H ρ' H' → RH ⟨P, w, K⟩ B L ρ' H' S → RV K B ρ' H' d v → Q v H') → codeAny (model P w) A (.call (.ref f) args) (CR (L2.CX P w) outer P w H s Q E) s
theorem fn_fin {P : Program} {w : World} {K : PySem.W.Frag} {N ps : List Str} {scope : Scope} {m : Bool} {b : FS} {xm : XM} {vs : List V} {H : Hp} {Q : VK} {E : XK} (Sc : FnScope N ps scope) (hs : spOf ⟨P, w, K⟩ xm ps.length (fn m N.length b) vs H Q E) (hm : m = false) :
    tS ⟨P, w, K⟩ (fun cls d _ H => E cls d H) xm b { nx := fun _ H' => Q .non H', rt := Q } (L2.start N vs) H := by
  subst hm
  obtain ⟨hl, B, L, ρ, S, ds, R, rv, g⟩ := hs
  have hNl : ps.length ≤ N.length := by have := congrArg List.length Sc.pre; rw [List.length_take] at this; omega
  refine ⟨B, L, ρ, S, ds ++ List.replicate (N.length - ds.length) .und, ⟨R, ⟨?_, fun i d e => ?_⟩⟩, ?_⟩
  · unfold L2.start
    rw [List.length_append, List.length_append, List.length_map, List.length_replicate, List.length_replicate, rv.length]
  · by_cases hi : i < ds.length
    · rw [List.getElem?_append_left hi] at e
      obtain ⟨v, e1, r1⟩ := rv.get e
      refine .inr ⟨v, ?_, r1⟩
      unfold L2.start
      rw [List.getElem?_append_left (by rw [List.length_map, ← rv.length]; exact hi), List.getElem?_map, e1]
      rfl
    · rw [List.getElem?_append_right (by omega)] at e
      exact .inl (List.eq_of_mem_replicate (List.mem_of_getElem? e))
  · revert g
    unfold fn
    have endF_ok : ∀ {d : D} {v : V} {ρ' : List Addr} {H' : Hp} {S' : Sto}, (match endF S.length d S' with
        | .ok d S' => ∀ v ρ' H', Post L ρ H ρ' H' → RH ⟨P, w, K⟩ B L ρ' H' S' → RV K B ρ' H' d v → Q v H'
        | .exc c S' => ∀ ρ' H', Post L ρ H ρ' H' → RH ⟨P, w, K⟩ B L ρ' H' S' → E (xm c) none H'
        | .bad => False) → Post L ρ H ρ' H' → RH ⟨P, w, K⟩ B L ρ' H' S' → RV K B ρ' H' d v → Q v H' := by
      intro d v ρ' H' S' g p R' r'
      unfold endF at g
      cases hb : Nat.beq S'.length S.length with
      | true => rw [hb] at g; exact g v ρ' H' p R' r'
      | false =>
        rw [hb] at g
        simp only [cond_false] at g
        obtain ⟨t, rfl⟩ := p.pre
        cases hf : frzD 9 S' S.length d with
        | none => rw [hf] at g; exact g.elim
        | some d' =>
          rw [hf] at g
          simp only at g
          cases hl : (S'.take S.length).all (lowO S.length) with
          | false => rw [hl] at g; exact g.elim
          | true =>
            rw [hl] at g
            rw [← R.len] at hf hl g
            exact g v ρ H' p.cut (R'.cut hl) (frz_ok R' 9 d d' v r' hf)
    cases b (ds ++ List.replicate (N.length - ds.length) .und) S with
    | nx env' S' => exact fun g σ' ρ' H' p R' re => endF_ok g p R' .non
    | bk env' S' => exact fun g => g.elim
    | ct env' S' => exact fun g => g.elim
    | bad => exact fun g => g.elim
    | xc c S' =>
      intro g σ' ρ' H' p R'
      unfold fnEnd endX at g
      simp only at g
      cases hb : Nat.beq S'.length S.length with
      | true => rw [hb] at g; exact g ρ' H' p R'
      | false =>
        rw [hb] at g
        simp only [cond_false] at g
        obtain ⟨t, rfl⟩ := p.pre
        cases hl : (S'.take S.length).all (lowO S.length) with
        | false => rw [hl] at g; exact g.elim
        | true =>
          rw [hl] at g
          rw [← R.len] at hl g
          exact g ρ H' p.cut (R'.cut hl)
    | rt d S' => exact fun g v ρ' H' p R' r' => endF_ok g p R' r'
/-- such a def, by its body's function -/
theorem fn_exc {P : Program} {w : World} {K : PySem.W.Frag} {mg : Str → Option Value} {base : Heap} {k : Nat} {f : Addr} {name qual : Str} {params : Arguments} {body : List Stmt} {scope : Scope} {dV kV doc pm cdv ct oc : Value} {an od : Option Addr}
    {osl : Array (Option Value)} {N ps : List Str} {xm : XM} {cls : Value} {d : D} {b : Addr → FS} (lk : K.lookup f = some ⟨oc, od, .func (PySem.W.fnOf name qual params body scope dV kV doc pm an cdv ct), osl⟩) (hcd : PySem.W.codeIn K cdv qual = true) (Sc : FnScope N ps scope) (hp1 : ps.length = 1)
    (hd : ∀ a, fn false N.length (b a) [.glob (.ref a)] [] = .ok d [])
    (hbody : ∀ (A : Around) (outer : List Env) (s : Shared) (H : Hp) (E : XK) (p : Addr × Obj), Zc cls none p.2 → (∃ vs, p.2.data = .fields vs) → L2H.RoomH k (A.deeper (envOfC qual scope s.heap.objs.size f cdv)) →
      SSs (L2H.cxH (L2.CX P w) P w K mg base N qual scope f cdv A outer s H E p) ⟨fun cls d _ H => E cls d H, xm⟩ body (b p.1)) :
    FnE P w K mg base (k + 1) f (PySem.W.fnOf name qual params body scope dV kV doc pm an cdv ct) ps cls d := by
  refine ⟨hp1, fun A outer s H args us Q E p hr hz hf hpin e0 hb hus hq => ?_⟩
  subst hus
  have KX : K.In s.heap := e0.mod.kin.keeps fun b o e => (e0.bs b o e).1
  have lim : s.heap.NoLimit := e0.mod.nolimit.keeps fun b o e => (e0.bs b o e).1
  have hkind : ∀ y ∈ ps.zip [Value.ref p.1], scope.names.lookup y.1 = some .local ∨ (scope.names.lookup y.1 = some .cell ∧ ((cellsFrom (s.heap.objs.size + 1) scope.names []).lookup y.1).isSome = true) := fun ⟨n, v⟩ hy => by
    rcases Sc.par n (List.of_mem_zip hy).1 with q | q
    · exact .inl q
    · exact .inr ⟨q, PySem.W.cellsFrom_some _ _ _ (.inl q)⟩
  refine codeAny_call_function hr.depth (KX _ _ lk) rfl Sc.co Sc.gen rfl (PySem.W.codeRec_of KX hcd) (hb _ _ _ _ ?_)
  refine wpAny_newFunctionEnv_cells Sc.kind hkind fun env he s1 x => ?_
  subst he
  refine ⟨lim.keeps x.toInCall.keep, codeAny_func ?_⟩
  have ht := hbody A outer s H E p hz hf (hr.deeper _)
  have r1 : Vals [V.ref p.1] [Value.ref p.1] := .cons rfl .nil
  have I : Inv (L2H.cxH (L2.CX P w) P w K mg base N qual scope f cdv A outer s H E p) [] (L2.start N [V.ref p.1]) H s1 := L2H.inv_startH Sc hpin e0 (by rw [hp1]; rfl) r1 x
  obtain ⟨B, L, ρ, S, R, q⟩ := hq
  have hs : spOf ⟨P, w, K⟩ xm ps.length (fn false N.length (b p.1)) [V.ref p.1] H Q E := by
    refine spOf_pure ⟨by rw [hp1]; rfl, B, L, ρ, S, [.glob (.ref p.1)], R, .cons (.glob (by simp)) .nil, ?_⟩
    unfold pureF
    rw [show lowL 0 [D.glob (.ref p.1)] = true from rfl, cond_true, hd]
    exact q
  refine wpAny_mono (ht.run [] s1 (L2.start N [V.ref p.1]) H _ I (fn_fin Sc hs rfl)) (fun fl s' hs => ?_) fun e s' hs => hs
  have fin : ∀ {σ' : L2.St} {H' : Hp} {v : V} {u : Value}, Inv (L2H.cxH (L2.CX P w) P w K mg base N qual scope f cdv A outer s H E p) [] σ' H' s' → RelV v u → Q v H' → CE outer P w H s Q u s' :=
    fun {σ' H' v u} J rv q => ⟨v, H', J.os, J.bare, J.base, J.hok, rv, q⟩
  cases fl with
  | ret u =>
    obtain ⟨v, σ', H', J, rv, q⟩ := hs
    exact fin J rv q
  | next =>
    obtain ⟨σ', H', J, q⟩ := hs
    exact fin (v := V.non) (u := Value.none) J rfl q
  | brk =>
    obtain ⟨_, _, _, q⟩ := hs
    exact False.elim q
  | cont =>
    obtain ⟨_, _, _, q⟩ := hs
    exact False.elim q
end Sf
end

section
set_option Elab.async false
set_option maxRecDepth 100000
set_option linter.all false
/-! Se2: try: .. except C as e: return which(e). -/
namespace Sf
open PySem PySem.Spec PyProof.Rows L2
/-- the caught exception's name -/
theorem pe_nameA {X : Cx} {a : Addr} {i : Nat} {n : Str} {np : Pos} (hi : X.N[i]? = some n) (hv : PE X (.Name n np) (tVar i)) : PE X (.Name n np) (fun σ H Q => ((i < σ.length → σ[i]? = some (some (V.ref a))) ∧ Q (.ref a) H)) :=
  ⟨fun pins s σ H Q I h => hv.run pins s σ H Q I ⟨_, h.1 (by rw [I.len]; exact (List.getElem?_eq_some_iff.mp hi).1), h.2⟩⟩
section
variable {X : Cx} {k : Nat} {f : Addr} {fd : FuncData} {ps : List Str} {cls : Value} {d : D} {a : Addr} {oe : Obj} {pn : List (Addr × Obj)} {x n : Str} {i : Nat} {q pos np : Pos}
/-- what the tale of the exception asks -/
def tTell (G : Pg) (d : D) : Hp → VK → Prop := fun H Q => ∃ B L ρ S, RH G B L ρ H S ∧ ∀ v ρ' H', Post L ρ H ρ' H' → RH G B L ρ' H' S → RV G.K B ρ' H' d v → Q v H'
theorem pe_tell (F : FnE X.prog X.w X.K X.mg X.base k f fd ps cls d) (hr : L2H.RoomH k X.A) (hz : Zc cls none oe) (hf : ∃ vs, oe.data = .fields vs) (hm : X.mg x = some (.ref f)) (hk : PySem.W.keepIn X.K (.ref f) = true) (hb : Binds X.K fd ps [])
    (hi : X.N[i]? = some n) (hv : PE (X.suite a ((a, oe) :: pn)) (.Name n np) (tVar i)) (hg : Gl (X.suite a ((a, oe) :: pn)) x) (hdb : (x == ("__debug__" : Str)) = false) :
    PE (X.suite a ((a, oe) :: pn)) (.Call (.Name x q) [.Name n np] [] pos) (fun σ H Q => (i < σ.length → σ[i]? = some (some (V.ref a))) ∧ tTell (pg X) d H Q) := by
  refine ⟨fun pins s σ H Q I h => ?_⟩
  have ha : PA (X.suite a ((a, oe) :: pn)) [.Name n np] (tCons (fun σ H Q => ((i < σ.length → σ[i]? = some (some (V.ref a))) ∧ Q (.ref a) H)) tNil) := pa_cons (pe_nameA (X := X.suite a ((a, oe) :: pn)) hi hv) pa_nil
  refine wpAny_Call_Name_kw (ld_glob I hg hm ?_ hdb)
  refine PySem.W.callWith_K (h₀ := X.base) I.ok.mod.kin hk (thn (ha.run pos pins s σ H (fun vs H1 => vs = [V.ref a] ∧ H1 = H) I ⟨h.1, rfl, rfl⟩) fun us s1 ⟨vs, H1, I1, r, q⟩ => ⟨I1.kIn, ?_⟩) rfl rfl
  obtain ⟨rfl, rfl⟩ := q
  cases r with
  | cons r1 r2 =>
    cases r2
    obtain rfl := r1
    have b := hb s1 [Value.ref a] I1.kIn (by rw [F.len]; rfl)
    rw [List.append_nil] at b
    have P1 := I1.pin (a, oe) (List.mem_append.mpr (.inl List.mem_cons_self))
    have hpin : L2H.PinOk (X.suite a ((a, oe) :: pn)).stack H1 s1 (a, oe) := ⟨P1.1, P1.2.1, fun hm => (List.mem_cons.mp (I1.stkSub a hm)).elim P1.2.2.1 P1.2.2.2.1, P1.2.2.2.2⟩
    show wpAny _ _ (call (.ref f) [Value.ref a]) _ _ _
    refine wpAny_call (codeAny_mono (F.run _ _ s1 H1 ⟨[Value.ref a], []⟩ [Value.ref a] Q (fun _ _ _ => False) (a, oe) (⟨hr.dp, hr.un⟩ : L2H.RoomH k (X.suite a ((a, oe) :: pn)).A) hz hf hpin I1.env0 b rfl h.2) fun r s' hq => ?_)
    cases r with
    | error e =>
      obtain ⟨_, _, _, _, _, _, _, _, _, _, _, _, z⟩ := hq
      exact z.elim
    | ok fl =>
      cases fl with
      | ret u => exact I1.after hq
      | next => exact False.elim hq
      | brk => exact False.elim hq
      | cont => exact False.elim hq
end
def sTry (cs : List Nat) (wh : Nat → D) (f : FS) : FS := fun env S => match f env S with
  | .xc c S' => bif cs.contains c then .rt (wh c) S' else .bad
  | r => r
theorem ss_try {X : Cx} {w : Wx} {body : List Stmt} {f : FS} {i k : Nat} {n x y : Str} {np pos pos' yp npp cp rp : Pos} {SE g : Addr} {fd : FuncData} {ps : List Str} {cs : List Nat} {wh : Nat → D} (hs : X.stack = X.env :: X.outer) (hf : X.env.frame = some X.env.locals) (hN : X.N.Nodup) (hi : X.N[i]? = some n)
    (hln : X.env.kindOf n = some .local) (hc : Names X x (.ref SE)) (tk : Takes X w.W)
    (hb : ∀ (W : WX) (pn : List (Addr × Obj)) (xe : Value → Shared → Prop), Takes (X.tr pn xe) W → PassesOwn (model X.prog X.w) X.A X.env xe → SSs (X.tr pn xe) ⟨W, w.xm⟩ body f)
    (hex : ∀ c, cs.contains c = true → PySem.W.exmOne X.K (w.xm c) (.ref SE) = some true) (hw : ∀ c, cs.contains c = true → FnE X.prog X.w X.K X.mg X.base k g fd ps (w.xm c) (wh c)) (hr : Room k X.A) (hm : X.mg y = some (.ref g)) (hk : PySem.W.keepIn X.K (.ref g) = true) (hbd : Binds X.K fd ps [])
    (hv : ∀ (a : Addr) (oe : Obj) (pn : List (Addr × Obj)), PE (X.suite a ((a, oe) :: pn)) (.Name n npp) (tVar i)) (hg : Gl X y) (hdb : (y == ("__debug__" : Str)) = false := by decide) :
    SS X w (.Try body [.ExceptHandler (some (.Name x np)) (some n) [.Return (some (.Call (.Name y yp) [.Name n npp] [] cp)) rp] pos'] [] [] pos) (sTry cs wh f) := by
  have hr' : L2H.RoomH k X.A := L2H.roomH_of hr
  -- the suite, whatever was caught
  refine PS.imp (ps_try_as (tb := fun W => tS (pg X) W w.xm f) (ts := fun a cls d => tRet fun σ H Q => (∃ c, cs.contains c = true ∧ cls = w.xm c ∧ d = none ∧ (i < σ.length → σ[i]? = some (some (V.ref a))) ∧ tTell (pg X) (wh c) H Q)) (Wout := w.W) hs hf hN hi hln hc tk hb ?_) fun D σ H ⟨B, L, ρ, S, env, A, gg⟩ => ?_
  · intro a oe cls d pn hz hfl
    refine pss_one (ps_ret ⟨fun pins s σ H Q I h => ?_⟩)
    obtain ⟨c, c7, rfl, rfl, h1, h2⟩ := h
    exact (pe_tell (hw c c7) hr' hz hfl hm hk hbd hi (hv a oe pn) hg hdb).run pins s σ H Q I ⟨h1, h2⟩
  · refine ⟨B, L, ρ, S, env, A, ?_⟩
    revert gg
    unfold sTry
    cases f env S with
    | nx e S' => exact fun g => g
    | bk e S' => exact fun g => g
    | ct e S' => exact fun g => g
    | rt e S' => exact fun g => g
    | bad => exact fun g => g
    | xc c S' =>
      intro gg
      simp only at gg
      cases hb7 : cs.contains c with
      | false => rw [hb7] at gg; exact gg.elim
      | true =>
        rw [hb7] at gg
        have c7 := hb7
        intro σ' ρ' H' p R
        refine ⟨true, hex c c7, fun _ a na => ?_, fun z => nomatch z⟩
        refine ⟨c, c7, rfl, rfl, fun hlt => ?_, B, L, ρ', S', R, fun v ρ2 H2 p2 R2 r2 => ?_⟩
        · rw [List.length_set] at hlt
          rw [List.getElem?_set_self hlt]
        · exact gg v ρ2 H2 (p.trans p2) R2 r2
end Sf
end

section
set_option Elab.async false
set_option maxRecDepth 100000
set_option linter.all false
/-! Se3: objects of the one class: fields, methods, making, len; defs that keep what they make. -/
namespace Sf
open PySem PySem.Spec PyProof.Rows L2
/-- what the class must say -/
structure Bd (K : PySem.W.Frag) (C : Addr) : Prop where
  n : BdIn K C
  c : Cls K C
  nF : NoAttr K C "form"
  nP : NoAttr K C "points"
def isFld (f : Str) : Bool := f == "form" || f == "points"
theorem Bd.no {K : PySem.W.Frag} {C : Addr} {f : Str} (b : Bd K C) (h : isFld f = true) : NoAttr K C f := by
  unfold isFld at h
  rw [Bool.or_eq_true] at h
  rcases h with h | h
  · rw [beq_iff_eq.mp h]; exact b.nF
  · rw [beq_iff_eq.mp h]; exact b.nP
theorem Bd.one {K : PySem.W.Frag} {C D : Addr} (b : Bd K C) (h : BdIn K D) : D = C := by
  have := h.symm.trans b.n
  injection this with this
  injection this with this
  injection this
section
variable {G : Pg} {B L ρ : List Addr} {H : Hp}
theorem RFs.look {f : Str} : ∀ {fs : List (Str × D)} {ents : List (Str × V)} {d : D}, RFs G B ρ H fs ents → fs.lookup f = some d → ∃ v, ents.lookup f = some v ∧ RV G.K B ρ H d v
  | _, _, _, .nil, e => by cases e
  | (g, x) :: fs, (_, y) :: ents, d, .cons h r, e => by
    rw [List.lookup_cons] at e ⊢
    cases q : f == g with
    | true => rw [q] at e; cases e; exact ⟨y, rfl, h⟩
    | false => rw [q] at e; exact r.look e
theorem RFs.lookN {f : Str} : ∀ {fs : List (Str × D)} {ents : List (Str × V)}, RFs G B ρ H fs ents → fs.lookup f = none → ents.lookup f = none
  | _, _, .nil, e => rfl
  | (g, x) :: fs, (_, y) :: ents, .cons h r, e => by
    rw [List.lookup_cons] at e ⊢
    cases q : f == g with
    | true => rw [q] at e; cases e
    | false => rw [q] at e; exact r.lookN e
theorem RFs.len : ∀ {fs : List (Str × D)} {ents : List (Str × V)}, RFs G B ρ H fs ents → ents.length = fs.length
  | _, _, .nil => rfl
  | _, _, .cons _ r => by rw [List.length_cons, List.length_cons, r.len]
def putD (f : Str) (v : D) : List (Str × D) → List (Str × D)
  | [] => [(f, v)]
  | (g, x) :: r => bif g == f then (g, v) :: r else (g, x) :: putD f v r
theorem RFs.put {f : Str} {d : D} {v : V} (h : RV G.K B ρ H d v) : ∀ {fs : List (Str × D)} {ents : List (Str × V)}, RFs G B ρ H fs ents → RFs G B ρ H (putD f d fs) (putF f v ents)
  | _, _, .nil => .cons h .nil
  | (g, x) :: fs, (_, y) :: ents, .cons r t => by
    unfold putD putF
    by_cases q : g = f
    · rw [if_pos q, beq_iff_eq.mpr q]; exact .cons h t
    · rw [if_neg q, beq_eq_false_iff_ne.mpr q]; exact .cons r (t.put h)
end
/-! ### a field read -/
def getF (f : Str) : Op1 := fun d S => match d with
  | .loc n => match S[n]? with
    | some (.ins fs) => (fs.lookup f).map fun v => (v, S)
    | _ => none
  | _ => none
def rFld (K : PySem.W.Frag) (f : Str) : V → Hp → VK → Prop := fun x H Q => ∃ a C dx fs v, x = .ref a ∧ H a = some (.ins C dx fs) ∧ Cls K C ∧ NoAttr K C f ∧ fs.lookup f = some v ∧ Q v H
theorem ok_getF {G : Pg} {C : Addr} {f : Str} (b : Bd G.K C) (hf : isFld f = true) : Ok1 G (rFld G.K f) (getF f) := by
  intro B L ρ S S' H d d' x Q R r e q
  unfold getF at e
  cases r with
  | @loc n a h =>
    simp only at e
    cases q1 : S[n]? with
    | none => rw [q1] at e; cases e
    | some ob =>
      rw [q1] at e
      cases ob with
      | ins fs =>
        simp only at e
        obtain ⟨C', dx, ents, hb, h1, h2⟩ := R.ob n a _ h q1
        obtain rfl := b.one hb
        cases q2 : fs.lookup f with
        | none => rw [q2] at e; cases e
        | some z =>
          rw [q2] at e; cases e
          obtain ⟨v, e2, r2⟩ := h2.look q2
          exact ⟨a, C', dx, ents, v, rfl, h1, b.c, b.no hf, e2, q v ρ H Post.refl R r2⟩
      | _ => cases e
  | _ => cases e
section
variable {X : Cx} {w : Wx} {C : Addr} {f m x : Str} {o e v : Expr} {es : List Expr} {fo fv : FE} {fs : FA} {pos pos' apos p : Pos} {k n : Nat} {g : Addr} {fd : FuncData} {ps : List Str} {F : Fn}
theorem se_fld (b : Bd X.K C) (ho : SE X w o fo) (hf : isFld f = true := by rfl) (hb : attributeBase o f X.env (eval o X.env) = eval o X.env := by rfl) : SE X w (.Attribute o f pos) (fOp1 (getF f) fo) :=
  PE.imp (pe_fld ho hb) fun σ H Q ⟨B, L, ρ, S, env, A, gg⟩ => go_op1 (r := rFld X.K f) (ok_getF (G := pg X) b hf) A gg
/-! ### a field written -/
def sPutF (f : Str) (fv fo : FE) : FS := fun env S => (fv env S).bindS fun y S1 => (fo env S1).bindS fun x S2 => match x with
  | .loc n => match S2[n]? with
    | some (.ins fs) => bif Nat.blt fs.length 1000 then .nx env (S2.set n (.ins (putD f y fs))) else .bad
    | _ => .bad
  | _ => .bad
theorem ss_fld (b : Bd X.K C) (ho : SE X w o fo) (hv : SE X w v fv) (hf : isFld f = true := by rfl) (hs : swapsWith v (some (.Attribute o f pos')) pos.line X.env = pure false := by rfl) : SS X w (.Assign [.Attribute o f pos'] v pos) (sPutF f fv fo) :=
  PS.imp (ps_fld ho hv hs) fun D σ H ⟨B, L, ρ, S, env, A, gg⟩ => by
    refine ⟨B, L, ρ, S, env, A, ?_⟩
    revert gg
    unfold sPutF
    cases fv env S with
    | exc c S' => exact fun g => g σ
    | bad => exact fun g => g
    | ok y S1 =>
      intro gg vy ρ1 H1 p1 R1 r1
      have g1 : GS (pg X) w.W w.xm B L ρ1 H1 _ D := GS.step gg p1
      refine ⟨B, L, ρ1, S1, env, A.step p1 R1, ?_⟩
      revert g1
      show GS (pg X) w.W w.xm B L ρ1 H1 ((fo env S1).bindS _) D → _
      cases fo env S1 with
      | exc c S' => exact fun g => g σ
      | bad => exact fun g => g
      | ok x S2 =>
        intro gg vx ρ2 H2 p2 R2 r2
        have g2 : GS (pg X) w.W w.xm B L ρ2 H2 _ D := GS.step gg p2
        cases r2 with
        | @loc n a h =>
          simp only [Out.bindS] at g2
          cases q1 : S2[n]? with
          | none => rw [q1] at g2; exact g2.elim
          | some ob =>
            rw [q1] at g2
            cases ob with
            | ins fs =>
              simp only at g2
              cases ql : Nat.blt fs.length 1000 with
              | false => rw [ql] at g2; exact g2.elim
              | true =>
                rw [ql] at g2
                obtain ⟨C', dx, ents, hb, h1, h2⟩ := R2.ob n a _ h q1
                obtain rfl := b.one hb
                have hl : a ∉ L := R2.notL h1 fun _ _ z => nomatch z
                have P3 : Post L ρ2 H2 ρ2 (upd H2 a (.ins C' dx (putF f vy ents))) := Post.wr h hl
                have R3 : RH (pg X) B L ρ2 (upd H2 a (.ins C' dx (putF f vy ents))) (S2.set n (.ins (putD f y fs))) := R2.wr h hl ⟨C', dx, _, hb, upd_same, ((h2.put (r1.mono p2)).mono P3)⟩
                have A2 := ((A.step p1 R1).step p2 R2)
                refine ⟨a, C', dx, ents, rfl, h1, b.c, b.no hf, by rw [h2.len]; exact Nat.le_of_ble_eq_true ql, ?_⟩
                exact GS.nx0 (GS.step g2 P3) R3 (A2.re.mono P3)
            | _ => exact g2.elim
        | _ => exact g2.elim
/-! ### a method -/
def isObj (m : Str) (d : D) (S : Sto) : Bool := match d with
  | .loc n => match S[n]? with
    | some (.ins fs) => (fs.lookup m).isNone
    | _ => false
  | _ => false
def fObjM (m : Str) (F : Fn) (fo : FE) (fs : FA) : FE := fun env S => (fo env S).bind fun o S1 => bif isObj m o S1 then (fs env S1).bind fun ds S2 => F (o :: ds) S2 else .bad
theorem isObj_ok {G : Pg} {B L ρ : List Addr} {H : Hp} {S : Sto} {d : D} {v : V} (b : Bd G.K C) (R : RH G B L ρ H S) (r : RV G.K B ρ H d v) (h : isObj m d S = true) : ∃ a dx ents, v = .ref a ∧ H a = some (.ins C dx ents) ∧ ents.lookup m = none := by
  unfold isObj at h
  cases r with
  | @loc n a hn =>
    simp only at h
    cases q1 : S[n]? with
    | none => rw [q1] at h; cases h
    | some ob =>
      rw [q1] at h
      cases ob with
      | ins fs =>
        simp only at h
        obtain ⟨C', dx, ents, hb, h1, h2⟩ := R.ob n a _ hn q1
        obtain rfl := b.one hb
        exact ⟨a, dx, ents, rfl, h1, h2.lookN (Option.isNone_iff_eq_none.mp h)⟩
      | _ => cases h
  | _ => cases h
/-- o.m(e, ..), what it raises wished for at the slots as they stand -/
def tMethS (C : Addr) (m : Str) (sp : Sp) (E : L2.St → XK) (ta : TE) (t : TA) : TE := fun σ H Q => ta σ H fun x H1 => ∃ a dx fs, x = .ref a ∧ H1 a = some (.ins C dx fs) ∧ fs.lookup m = none ∧ t σ H1 fun vs H2 => sp (x :: vs) H2 Q (E σ)
theorem pe_methS {CX : CXT} {sp : Sp} {E : L2.St → XK} {ta : TE} {t : TA} {pl : Sem Bool} (he : PE X o ta) (c : Cls X.K C) (hm : Meth X.K C m g)
    (F : FnOk X.prog X.w X.K X.mg X.base CX k g fd ps sp) (hr : Room k X.A) (hb : Binds X.K fd ps []) (hx : ∀ σ, PassesAt CX X σ (E σ)) (ha : PA X (e :: es) t)
    (hst : starEach (e :: es) X.env = (false, eval e X.env) :: starEach es X.env := by rfl) (hpl : (backTo pos (starEach es X.env)).any (·.1) = false := by rfl)
    (ht : eval (.Call (.Attribute o m apos) (e :: es) [] pos) X.env = (do
      let ov ← eval o X.env
      standAt apos.atName
      let (f, first) ← holding [ov] (getMethod ov m pl)
      callWith pos f first (backTo pos (starEach (e :: es) X.env)) (backToKw pos (keywordEach [] X.env))) := by rfl) :
    PE X (.Call (.Attribute o m apos) (e :: es) [] pos) (tMethS C m sp E ta t) := by
  refine ⟨fun pins s σ H Q I h => ?_⟩
  refine PySem.W.methodCall_KW (pl := pl) (thn (he.run pins s σ H _ I h) fun u s1 ⟨x, H1, I1, rx, a, dx, fs, ex, ea, l, q⟩ => ?_) ht
  subst ex
  obtain rfl : u = Value.ref a := rx
  refine getmeth_ok I1 ea c hm l ?_
  refine PySem.W.callWith_K (first := [.ref a]) (h₀ := X.base) I.ok.mod.kin hm.kp (thn (ha.run pos pins s1 σ H1 _ I1 q) fun us s2 ⟨vs, H2, I2, r, q2⟩ => ⟨I2.kIn, ?_⟩) hst hpl
  exact run_fnS (us := .ref a :: us) (vs := .ref a :: vs) F hr hb (hx σ) I2 (.cons rfl r) q2
theorem pe_methS0 {CX : CXT} {sp : Sp} {E : L2.St → XK} {ta : TE} {pl : Sem Bool} (he : PE X o ta) (c : Cls X.K C) (hm : Meth X.K C m g)
    (F : FnOk X.prog X.w X.K X.mg X.base CX k g fd ps sp) (hr : Room k X.A) (hb : Binds X.K fd ps []) (hx : ∀ σ, PassesAt CX X σ (E σ))
    (ht : eval (.Call (.Attribute o m apos) [] [] pos) X.env = (do
      let ov ← eval o X.env
      standAt apos.atName
      let (f, first) ← holding [ov] (getMethod ov m pl)
      callWith pos f first (backTo pos (starEach [] X.env)) (backToKw pos (keywordEach [] X.env))) := by rfl) :
    PE X (.Call (.Attribute o m apos) [] [] pos) (tMethS C m sp E ta tNil) := by
  refine ⟨fun pins s σ H Q I h => ?_⟩
  refine PySem.W.methodCall_KW (pl := pl) (thn (he.run pins s σ H _ I h) fun u s1 ⟨x, H1, I1, rx, a, dx, fs, ex, ea, l, q⟩ => ?_) ht
  subst ex
  obtain rfl : u = Value.ref a := rx
  refine getmeth_ok I1 ea c hm l ?_
  exact PySem.W.callWith_K0 (first := [.ref a]) I1.kIn hm.kp (run_fnS (us := [.ref a]) (vs := [.ref a]) F hr hb (hx σ) I1 (.cons rfl .nil) q)
/-- a method as the top has left it -/
structure Dm (K : PySem.W.Frag) (C : Addr) (x qual : Str) (st : Stmt) (ps : List Str) (a : Addr) (fd : FuncData) : Prop where
  F : Fun K x qual st a fd
  m : Meth K C x a
  b : Binds K fd ps []
theorem go_meth (b : Bd X.K C) {σ : L2.St} {H : Hp} {Q : VK} (hlen : ∀ env S ds S', fs env S = .ok ds S' → ds.length + 1 = n) (h : tE (pg X) w.W w.xm (fObjM m F fo fs) σ H Q) :
    tMethS C m (spOf (pg X) w.xm n F) (WE w.W) (tE (pg X) w.W w.xm fo) (tA (pg X) w.W w.xm fs) σ H Q := by
  obtain ⟨B, L, ρ, S, env, A, gg⟩ := h
  refine ⟨B, L, ρ, S, env, A, ?_⟩
  revert gg
  unfold fObjM
  cases fo env S with
  | exc c S' => exact fun g => g
  | bad => exact fun g => g
  | ok o S1 =>
    intro gg v ρ1 H1 p1 R1 r1
    have g1 : GO (pg X) w.W w.xm B L ρ1 H1 σ (rD (pg X) B) (bif isObj m o S1 then (fs env S1).bind fun ds S2 => F (o :: ds) S2 else .bad) Q := GO.step gg p1
    cases hi : isObj m o S1 with
    | false => rw [hi] at g1; exact g1.elim
    | true =>
      rw [hi] at g1
      obtain ⟨a, dx, ents, rfl, h1, h2⟩ := isObj_ok (G := pg X) b R1 r1 hi
      refine ⟨a, dx, ents, rfl, h1, h2, B, L, ρ1, S1, env, A.step p1 R1, ?_⟩
      revert g1
      show GO (pg X) w.W w.xm B L ρ1 H1 σ (rD (pg X) B) ((fs env S1).bind fun ds S2 => F (o :: ds) S2) Q → _
      cases hfs : fs env S1 with
      | exc c S' => exact fun g => g
      | bad => exact fun g => g
      | ok ds S2 =>
        intro g vs ρ' H' pp R r
        have g' : GO (pg X) w.W w.xm B L ρ' H' σ (rD (pg X) B) (F (o :: ds) S2) Q := GO.step g pp
        refine ⟨by rw [List.length_cons, ← RVs.length r]; exact hlen _ _ _ _ hfs, B, L, ρ', S2, o :: ds, R, .cons (r1.mono pp) r, ?_⟩
        revert g'
        cases F (o :: ds) S2 with
        | ok d S3 => exact fun g => g
        | exc c S3 => exact fun g => g
        | bad => exact fun g => g
theorem se_meth {qual : Str} {st : Stmt} (b : Bd X.K C) (D : Dm X.K C m qual st ps g fd) (FO : FnOk X.prog X.w X.K X.mg X.base (L2.CX X.prog X.w) k g fd ps (spOf (pg X) w.xm n F)) (tk : Takes X w.W) (hr : Room k X.A) (ho : SE X w o fo) (ha : SA X w (e :: es) fs)
    (hlen : ∀ env S ds S', fs env S = .ok ds S' → ds.length + 1 = n) {pl : Sem Bool} (hst : starEach (e :: es) X.env = (false, eval e X.env) :: starEach es X.env := by rfl) (hpl : (backTo pos (starEach es X.env)).any (·.1) = false := by rfl)
    (ht : eval (.Call (.Attribute o m apos) (e :: es) [] pos) X.env = (do
      let ov ← eval o X.env
      standAt apos.atName
      let (f, first) ← holding [ov] (getMethod ov m pl)
      callWith pos f first (backTo pos (starEach (e :: es) X.env)) (backToKw pos (keywordEach [] X.env))) := by rfl) :
    SE X w (.Call (.Attribute o m apos) (e :: es) [] pos) (fObjM m F fo fs) :=
  PE.imp (pe_methS ho b.c D.m FO hr D.b (passAt tk) ha hst hpl ht) fun σ H Q h => go_meth b hlen h
theorem se_meth0 {qual : Str} {st : Stmt} (b : Bd X.K C) (D : Dm X.K C m qual st ps g fd) (FO : FnOk X.prog X.w X.K X.mg X.base (L2.CX X.prog X.w) k g fd ps (spOf (pg X) w.xm 1 F)) (tk : Takes X w.W) (hr : Room k X.A) (ho : SE X w o fo) {pl : Sem Bool}
    (ht : eval (.Call (.Attribute o m apos) [] [] pos) X.env = (do
      let ov ← eval o X.env
      standAt apos.atName
      let (f, first) ← holding [ov] (getMethod ov m pl)
      callWith pos f first (backTo pos (starEach [] X.env)) (backToKw pos (keywordEach [] X.env))) := by rfl) :
    SE X w (.Call (.Attribute o m apos) [] [] pos) (fObjM m F fo fNil) :=
  PE.imp (pe_methS0 ho b.c D.m FO hr D.b (passAt tk) ht) fun σ H Q h => by
    obtain ⟨B, L, ρ, S, env, A, gg⟩ := go_meth b (fs := fNil) (fun env S ds S' e => by cases e; rfl) h
    refine ⟨B, L, ρ, S, env, A, gg.mono fun v H1 ⟨a, dx, ents, e1, e2, e3, B1, L1, ρ1, S1, env1, A1, g1⟩ => ⟨a, dx, ents, e1, e2, e3, ?_⟩⟩
    exact g1 [] ρ1 H1 Post.refl A1.rh .nil
/-! ### making -/
def fMake (F : Fn) (fs : FA) : FE := fun env S => (fs env S).bind fun ds S1 => (F (.loc S1.length :: ds) (S1 ++ [.ins []])).bind fun d S2 => match d with
  | .non => .ok (.loc S1.length) S2
  | _ => .bad
def tMakeS (C : Addr) (sp : Sp) (E : L2.St → XK) (t : TA) : TE := fun σ H Q => t σ H fun vs H1 => ∀ x dx, H1 x = none → H1 dx = none → dx ≠ x →
  sp (.ref x :: vs) (upd (upd H1 dx (.own x)) x (.ins C dx [])) (fun v H2 => v = .non ∧ Q (.ref x) H2) (E σ)
theorem run_makeS {CX : CXT} {sp : Sp} {E : XK} {pins : List (Addr × Obj)} {σ : L2.St} {H : Hp} {s : Shared} {Q : VK} {us : List Value} {vs : List V} (M : Mk X.K C g) (F : FnOk X.prog X.w X.K X.mg X.base CX k g fd ps sp) (hr : Room (k + 1) X.A) (hb : Binds X.K fd ps [])
    (hx : PassesAt CX X σ E) (I : Inv X pins σ H s) (r : Vals vs us)
    (h : ∀ x dx, H x = none → H dx = none → dx ≠ x → sp (.ref x :: vs) (upd (upd H dx (.own x)) x (.ins C dx [])) (fun v H2 => v = .non ∧ Q (.ref x) H2) E) :
    wpAny (model X.prog X.w) X.A (call (.ref C) us) (EP X pins σ Q) X.xe s := by
  have hq := h (s.heap.objs.size + 1) s.heap.objs.size (I.hok.fresh (Nat.le_succ _)) (I.hok.fresh (Nat.le_refl _)) (Nat.ne_of_lt (Nat.lt_succ_self _))
  have I2 := Inv.made (C := C) I
  have r2 : Vals (V.ref (s.heap.objs.size + 1) :: vs) (Value.ref (s.heap.objs.size + 1) :: us) := .cons rfl r
  have hl : (Value.ref (s.heap.objs.size + 1) :: us).length = ps.length := by
    have e := r2.length
    rw [F.len _ _ _ _ hq] at e
    exact e.symm
  have b := hb { s with heap := (s.heap.push PySem.W.emptyDict).push (PySem.W.instObj C s.heap.objs.size) } (Value.ref (s.heap.objs.size + 1) :: us) I2.kIn (by rw [List.append_nil]; exact hl)
  rw [List.append_nil] at b
  refine wpAny_call (make_map (f := g) I.kIn M.makes M.init (beq_iff_eq.mp M.fn) (codeAny_mono (F.run _ X.stack _ _ ⟨Value.ref (s.heap.objs.size + 1) :: us, []⟩ (Value.ref (s.heap.objs.size + 1) :: us) _ _ E (hr.make C us [])
    (I2.env0.make C us []) b r2 hq) fun r s' hq' => ?_))
  cases r with
  | error e => exact hx pins _ _ e s' I2 hq'
  | ok fl =>
    cases fl with
    | ret u =>
      obtain ⟨v, H', I3, rv, ev, q3⟩ := I2.after hq'
      subst ev
      exact ⟨rv, ⟨V.ref (s.heap.objs.size + 1), H', I3, rfl, q3⟩⟩
    | next => exact False.elim hq'
    | brk => exact False.elim hq'
    | cont => exact False.elim hq'
theorem se_make (b : Bd X.K C) (M : Mk X.K C g) (FO : FnOk X.prog X.w X.K X.mg X.base (L2.CX X.prog X.w) k g fd ps (spOf (pg X) w.xm n F)) (hbd : Binds X.K fd ps []) (tk : Takes X w.W) (hr : Room (k + 1) X.A) (hm : X.mg x = some (.ref C)) (ha : SA X w (e :: es) fs)
    (hlen : ∀ env S ds S', fs env S = .ok ds S' → ds.length + 1 = n) (hg : Gl X x := by rfl) (hdb : (x == ("__debug__" : Str)) = false := by decide) (he : starEach (e :: es) X.env = (false, eval e X.env) :: starEach es X.env := by rfl) (hpl : (backTo pos (starEach es X.env)).any (·.1) = false := by rfl) :
    SE X w (.Call (.Name x p) (e :: es) [] pos) (fMake F fs) := by
  refine ⟨fun pins s σ H Q I h => ?_⟩
  have h2 : tMakeS C (spOf (pg X) w.xm n F) (WE w.W) (tA (pg X) w.W w.xm fs) σ H Q := by
    obtain ⟨B, L, ρ, S, env, A, gg⟩ := h
    refine ⟨B, L, ρ, S, env, A, ?_⟩
    revert gg
    unfold fMake
    cases hfs : fs env S with
    | exc c S' => exact fun g => g
    | bad => exact fun g => g
    | ok ds S1 =>
      intro gg vs ρ1 H1 p1 R1 r1 y dx hy hdx hne
      have g1 : GO (pg X) w.W w.xm B L ρ1 H1 σ (rD (pg X) B) ((F (.loc S1.length :: ds) (S1 ++ [.ins []])).bind fun d S2 => match d with
        | .non => .ok (.loc S1.length) S2
        | _ => .bad) Q := GO.step gg p1
      have P2 : Post L ρ1 H1 ρ1 (upd H1 dx (.own y)) := Post.newV hdx
      have R2 : RH (pg X) B L ρ1 (upd H1 dx (.own y)) S1 := R1.newV hdx
      have hy2 : upd H1 dx (.own y) y = none := by rw [upd_ne (Ne.symm hne)]; exact hy
      have P3 : Post L ρ1 (upd H1 dx (.own y)) (ρ1 ++ [y]) (upd (upd H1 dx (.own y)) y (.ins C dx [])) := Post.newL hy2
      have R3 : RH (pg X) B L (ρ1 ++ [y]) (upd (upd H1 dx (.own y)) y (.ins C dx [])) (S1 ++ [.ins []]) := R2.newL hy2 ⟨C, dx, [], b.n, upd_same, .nil⟩
      have p3 := P2.trans P3
      have ey : (ρ1 ++ [y])[S1.length]? = some y := by rw [← R1.len, List.getElem?_append_right (Nat.le_refl _)]; simp
      refine ⟨by rw [List.length_cons, ← RVs.length r1]; exact hlen _ _ _ _ hfs, B, L, ρ1 ++ [y], S1 ++ [.ins []], .loc S1.length :: ds, R3, .cons (.loc ey) (RVs.mono p3 _ _ r1), ?_⟩
      have g2 := GO.step g1 p3
      revert g2
      cases F (.loc S1.length :: ds) (S1 ++ [.ins []]) with
      | bad => exact fun g => g
      | exc c S3 => exact fun g => g
      | ok d S3 =>
        intro g v ρ' H' pp R r
        cases r with
        | non => exact ⟨rfl, g (.ref y) ρ' H' pp R (.loc (pp.at ey))⟩
        | _ => exact g.elim
  refine wpAny_Call_Name_kw (ld_glob I hg hm ?_ hdb)
  refine PySem.W.callWith_K (h₀ := X.base) I.ok.mod.kin M.kp (thn (ha.run pos pins s σ H _ I h2) fun us s1 ⟨vs, H1, I1, r, q⟩ => ⟨I1.kIn, ?_⟩) he hpl
  exact run_makeS M FO hr hbd (passAt tk σ) I1 r q
/-! ### len -/
def fLenO (F : Fn) (fo : FE) : FE := fun env S => (fo env S).bind fun o S1 => bif isObj "__len__" o S1 then (F [o] S1).bind fun d S2 => match d with
  | .int i => bif decide (0 ≤ i) && decide (i < 16777216) then .ok (.int i) S2 else .bad
  | _ => .bad else .bad
theorem run_lenS {CX : CXT} {sp : Sp} {E : XK} {pins : List (Addr × Obj)} {σ : L2.St} {H : Hp} {s : Shared} {Q : VK} {a dx : Addr} {ents : List (Str × V)} (hm : Meth X.K C "__len__" g) (F : FnOk X.prog X.w X.K X.mg X.base CX k g fd ps sp) (hr : Room (k + 1) X.A) (hb : Binds X.K fd ps [])
    (hx : PassesAt CX X σ E) (I : Inv X pins σ H s) (ha : H a = some (.ins C dx ents)) (h : sp [V.ref a] H (fun v H2 => ∃ i : Int, v = .int i ∧ 0 ≤ i ∧ i < 16777216 ∧ Q (.int i) H2) E) :
    wpAny (model X.prog X.w) X.A (call (.builtin "len") [.ref a]) (EP X pins σ Q) X.xe s := by
  obtain ⟨mA, J, _⟩ := ins_get I.hok ha
  obtain ⟨od, J, _⟩ := J.look
  obtain ⟨m, hF⟩ := I.fr
  refine PySem.W.len_K hF I.ok.mod.kin J hm.at_ hm.fn ?_
  have hl := F.len _ _ _ _ h
  have b := hb s [Value.ref a] I.kIn (by rw [List.append_nil]; exact hl)
  rw [List.append_nil] at b
  have r2 : Vals [V.ref a] [Value.ref a] := .cons rfl .nil
  refine wpAny_call (codeAny_mono (F.run X.A.in1 X.stack s H ⟨[Value.ref a], []⟩ [Value.ref a] [V.ref a] _ E hr.in1 I.env0.in1 b r2 h) fun r s' hq => ?_)
  cases r with
  | error e => exact hx pins H s e s' I hq
  | ok fl =>
    cases fl with
    | ret u =>
      obtain ⟨v, H', I3, rv, i, rfl, i0, i1, q3⟩ := I.after hq
      obtain ⟨t, rfl⟩ := (show ∃ t, u = Value.int i t from rv)
      exact ⟨⟨i0, by omega⟩, .int i, H', I3.tok _, ⟨_, rfl⟩, q3⟩
    | next => exact False.elim hq
    | brk => exact False.elim hq
    | cont => exact False.elim hq
theorem se_lenO {qual : Str} {st : Stmt} (b : Bd X.K C) (D : Dm X.K C "__len__" qual st ps g fd) (FO : FnOk X.prog X.w X.K X.mg X.base (L2.CX X.prog X.w) k g fd ps (spOf (pg X) w.xm 1 F)) (tk : Takes X w.W) (hr : Room (k + 1) X.A) (ho : SE X w o fo)
    (hm : X.mg "len" = none) (hv : bootBuiltins "len" = some (.builtin "len")) (hg : Gl X "len" := by rfl) (he : starEach [o] X.env = (false, eval o X.env) :: starEach [] X.env := by rfl) (hpl : (backTo pos (starEach [] X.env)).any (·.1) = false := by rfl) : SE X w (.Call (.Name "len" p) [o] [] pos) (fLenO F fo) := by
  refine ⟨fun pins s σ H Q I h => ?_⟩
  have h2 : tE (pg X) w.W w.xm fo σ H fun x H1 => ∃ a dx ents, x = .ref a ∧ H1 a = some (.ins C dx ents) ∧ spOf (pg X) w.xm 1 F [V.ref a] H1 (fun v H2 => ∃ i : Int, v = .int i ∧ 0 ≤ i ∧ i < 16777216 ∧ Q (.int i) H2) (WE w.W σ) := by
    obtain ⟨B, L, ρ, S, env, A, gg⟩ := h
    refine ⟨B, L, ρ, S, env, A, ?_⟩
    revert gg
    unfold fLenO
    cases fo env S with
    | exc c S' => exact fun g => g
    | bad => exact fun g => g
    | ok d S1 =>
      intro gg v ρ1 H1 p1 R1 r1
      have g1 : GO (pg X) w.W w.xm B L ρ1 H1 σ (rD (pg X) B) (bif isObj "__len__" d S1 then (F [d] S1).bind fun d S2 => match d with
        | .int i => bif decide (0 ≤ i) && decide (i < 16777216) then .ok (.int i) S2 else .bad
        | _ => .bad else .bad) Q := GO.step gg p1
      cases hi : isObj "__len__" d S1 with
      | false => rw [hi] at g1; exact g1.elim
      | true =>
        rw [hi] at g1
        obtain ⟨a, dx, ents, rfl, h1, h2⟩ := isObj_ok (G := pg X) b R1 r1 hi
        refine ⟨a, dx, ents, rfl, h1, rfl, B, L, ρ1, S1, [d], R1, .cons r1 .nil, ?_⟩
        revert g1
        simp only [cond_true]
        cases F [d] S1 with
        | bad => exact fun g => g
        | exc c S3 => exact fun g => g
        | ok z S3 =>
          intro g v2 ρ' H' pp R r
          cases r with
          | int i =>
            have g3 : GO (pg X) w.W w.xm B L ρ1 H1 σ (rD (pg X) B) (bif decide (0 ≤ i) && decide (i < 16777216) then .ok (.int i) S3 else .bad) Q := g
            cases hd : decide (0 ≤ i) && decide (i < 16777216) with
            | false => rw [hd] at g3; exact g3.elim
            | true =>
              rw [hd] at g3
              rw [Bool.and_eq_true, decide_eq_true_eq, decide_eq_true_eq] at hd
              exact ⟨i, rfl, hd.1, hd.2, g3 _ ρ' H' pp R (.int i)⟩
          | _ => exact g.elim
  have ha : PA X [o] (tCons (tE (pg X) w.W w.xm fo) tNil) := pa_cons ho pa_nil he
  refine wpAny_Call_Name_kw (ld_blt I hg hm hv ?_ (by decide) (by decide))
  refine PyProof.Rows.callWith_builtin1 (thn (ha.run pos pins s σ H (fun xs H1 => ∃ a dx ents, xs = [V.ref a] ∧ H1 a = some (.ins C dx ents) ∧ spOf (pg X) w.xm 1 F [V.ref a] H1 (fun v H2 => ∃ i : Int, v = .int i ∧ 0 ≤ i ∧ i < 16777216 ∧ Q (.int i) H2) (WE w.W σ)) I ?_) fun us s1 ⟨vs, H1, I1, r1, a, dx, ents, e1, e2, e3⟩ => ?_) he hpl
  · refine tE_mono h2 fun x H1 ⟨a, dx, ents, e1, e2, e3⟩ => ?_
    subst e1
    exact ⟨a, dx, ents, rfl, e2, e3⟩
  · subst e1
    cases r1 with
    | cons r1 r2 =>
      cases r2
      obtain rfl := r1
      exact run_lenS D.m FO hr D.b (passAt tk σ) I1 e2 e3
end
/-! ### a def that keeps what it has made -/
def fnK (N : Nat) (b : FS) : Fn := fun ds S => match b (ds ++ List.replicate (N - ds.length) .und) S with
  | .rt d S' => .ok d S'
  | .nx _ S' => .ok .non S'
  | .xc c S' => .exc c S'
  | _ => .bad
section
variable {P : Program} {w : World} {K : PySem.W.Frag} {mg : Str → Option Value} {base : Heap}
theorem fn_okK {x qual : Str} {st : Stmt} {f : Addr} {fd : FuncData} {N ps : List Str} {k : Nat} {b : FS} (xm : XM) (F : Fun K x qual st f fd) (Sc : FnScope N ps (defScope st))
    (h : ∀ (cdv : Value) (A : Around) (outer : List PySem.Env) (s : Shared) (H : Hp) (E : XK) (W : WX), Room k (A.deeper (envOfC qual (defScope st) s.heap.objs.size f cdv)) →
      Takes (cxOf (L2.CX P w) P w K mg base N qual (defScope st) f cdv A outer s H E) W → SSs (cxOf (L2.CX P w) P w K mg base N qual (defScope st) f cdv A outer s H E) ⟨W, xm⟩ (defBody st) b) :
    FnOk P w K mg base (L2.CX P w) (k + 1) f fd ps (spOf ⟨P, w, K⟩ xm ps.length (fnK N.length b)) := by
  refine F.okX Sc (fun vs H Q E h => h.1) (fun cdv A outer s H vs Q E hr hs => ?_)
  have tk : Takes (cxOf (L2.CX P w) P w K mg base N qual (defScope st) f cdv A outer s H E) (fun cls d _ H => E cls d H) := takes_of rfl rfl rfl rfl
  refine ⟨_, h cdv A outer s H E _ hr tk, ?_⟩
  obtain ⟨hl, B, L, ρ, S, ds, R, rv, g⟩ := hs
  have hNl : ps.length ≤ N.length := by have := congrArg List.length Sc.pre; rw [List.length_take] at this; omega
  refine ⟨B, L, ρ, S, ds ++ List.replicate (N.length - ds.length) .und, ⟨R, ⟨?_, fun i d e => ?_⟩⟩, ?_⟩
  · unfold L2.start
    rw [List.length_append, List.length_append, List.length_map, List.length_replicate, List.length_replicate, rv.length]
  · by_cases hi : i < ds.length
    · rw [List.getElem?_append_left hi] at e
      obtain ⟨v, e1, r1⟩ := rv.get e
      refine .inr ⟨v, ?_, r1⟩
      unfold L2.start
      rw [List.getElem?_append_left (by rw [List.length_map, ← rv.length]; exact hi), List.getElem?_map, e1]
      rfl
    · rw [List.getElem?_append_right (by omega)] at e
      exact .inl (List.eq_of_mem_replicate (List.mem_of_getElem? e))
  · revert g
    unfold fnK
    cases b (ds ++ List.replicate (N.length - ds.length) .und) S with
    | nx env' S' => exact fun g σ' ρ' H' p R' re => g .non ρ' H' p R' .non
    | bk env' S' => exact fun g => g.elim
    | ct env' S' => exact fun g => g.elim
    | bad => exact fun g => g.elim
    | xc c S' => exact fun g σ' ρ' H' p R' => g ρ' H' p R'
    | rt d S' => exact fun g v ρ' H' p R' r' => g v ρ' H' p R' r'
end
end Sf
end

section
set_option Elab.async false
set_option maxRecDepth 100000
set_option linter.all false
/-! Se4: the def that tells which exception was caught. -/
namespace Sf
open PySem PySem.Spec PyProof.Rows L2
def bolsD : List D → Option (List Bool)
  | [] => some []
  | .bl b :: r => match bolsD r with
    | some bs => some (b :: bs)
    | none => none
  | _ => none
theorem bolsD_ok {K : PySem.W.Frag} {B ρ : List Addr} {H : Hp} : ∀ {ds : List D} {vs : List V} {bs : List Bool}, RVs K B ρ H ds vs → bolsD ds = some bs → vs = bs.map V.bl
  | _, _, _, .nil, e => by cases e; rfl
  | .bl b :: ds, _, _, .cons (.bl _) t, e => by
    unfold bolsD at e
    cases q : bolsD ds with
    | none => rw [q] at e; cases e
    | some cs => rw [q] at e; cases e; rw [bolsD_ok t q]; rfl
  | .und :: _, _, _, .cons r _, e => by cases e
  | .non :: _, _, _, .cons r _, e => by cases e
  | .int _ :: _, _, _, .cons r _, e => by cases e
  | .str _ :: _, _, _, .cons r _, e => by cases e
  | .tup _ :: _, _, _, .cons r _, e => by cases e
  | .lst _ :: _, _, _, .cons r _, e => by cases e
  | .scr _ :: _, _, _, .cons r _, e => by cases e
  | .loc _ :: _, _, _, .cons r _, e => by cases e
  | .glob _ :: _, _, _, .cons r _, e => by cases e
def mCountB : OpM := fun o xs S => match lsR o S, xs with
  | some l, [.bl k] => match bolsD l with
    | some bs => some (.int ((bs.count k : Nat) : Int), S)
    | none => none
  | _, _ => none
def mIndexB : OpM := fun o xs S => match lsR o S, xs with
  | some l, [.bl k] => match bolsD l with
    | some bs => bif bs.contains k then some (.int ((bs.idxOf k : Nat) : Int), S) else none
    | none => none
  | _, _ => none
theorem flat_bols (bs : List Bool) : (bs.map V.bl).all flatV = true := by
  rw [List.all_eq_true]
  intro x hx
  obtain ⟨b, _, rfl⟩ := List.mem_map.mp hx
  rfl
theorem countP_bols (k : Bool) (bs : List Bool) : (bs.map V.bl).countP (fun z => eqV z (.bl k)) = bs.count k := by
  rw [List.countP_map]; rfl
section
variable {X : Cx} {w : Wx} {o e : Expr} {fo : FE} {fs : FA} {apos cpos : Pos}
theorem ok_countB : OkM (pg X) (rCountF X.K) mCountB := by
  intro B L ρ S S' H o ds d' x xs Q R ro rs e q
  unfold mCountB at e
  cases e1 : lsR o S with
  | none => rw [e1] at e; cases e
  | some l =>
    rw [e1] at e
    match ds, e with
    | [.bl k], e =>
      obtain ⟨y, rfl, r⟩ := rvs1 rs
      cases r
      simp only at e
      cases e2 : bolsD l with
      | none => rw [e2] at e; cases e
      | some bs =>
        rw [e2] at e; cases e
        obtain ⟨a, vs, rfl, h1, h2⟩ := lsR_ok (G := pg X) R ro e1
        obtain rfl := bolsD_ok h2 e2
        refine ⟨a, bs.map V.bl, .bl k, rfl, rfl, h1, rfl, flat_bols bs, ?_⟩
        rw [countP_bols]
        exact here (G := pg X) q R (.int _)
theorem ok_indexB : OkM (pg X) (rIndex X.K) mIndexB := by
  intro B L ρ S S' H o ds d' x xs Q R ro rs e q
  unfold mIndexB at e
  cases e1 : lsR o S with
  | none => rw [e1] at e; cases e
  | some l =>
    rw [e1] at e
    match ds, e with
    | [.bl k], e =>
      obtain ⟨y, rfl, r⟩ := rvs1 rs
      cases r
      simp only at e
      cases e2 : bolsD l with
      | none => rw [e2] at e; cases e
      | some bs =>
        rw [e2] at e
        simp only at e
        cases hc : bs.contains k with
        | false => rw [hc] at e; cases e
        | true =>
          rw [hc] at e; cases e
          obtain ⟨a, vs, rfl, h1, h2⟩ := lsR_ok (G := pg X) R ro e1
          obtain rfl := bolsD_ok h2 e2
          have hm : k ∈ bs := List.contains_iff_mem.mp hc
          have hlt : bs.idxOf k < bs.length := List.idxOf_lt_length_of_mem hm
          refine ⟨a, bs.map V.bl, .bl k, bs.idxOf k, .bl k, rfl, rfl, h1, rfl, flat_bols bs, ?_, ?_, fun m z' hmlt hz => ?_, here (G := pg X) q R (.int _)⟩
          · rw [List.getElem?_map, List.getElem?_eq_getElem hlt, List.getElem_idxOf]; rfl
          · show (k == k) = true
            exact beq_self_eq_true k
          · rw [List.getElem?_map] at hz
            cases hb : bs[m]? with
            | none => rw [hb] at hz; cases hz
            | some b =>
              rw [hb] at hz; cases hz
              show (b == k) = false
              obtain ⟨hml, rfl⟩ := List.getElem?_eq_some_iff.mp hb
              exact List.not_of_lt_findIdx (p := (· == k)) hmlt
theorem se_countB (ho : SE X w o fo) (ha : SA X w [e] fs) (hbase : attributeBase o "count" X.env (eval o X.env) = eval o X.env := by rfl)
    (hfew : ((backTo cpos (starEach [e] X.env)).all (fun x => !x.1) && (backToKw cpos (keywordEach [] X.env)).all (fun x => x.1.isSome) && decide (([e] : List Expr).length + ([] : List Keyword).length + (if ([] : List Keyword).isEmpty then 0 else 1) < 30)) = true := by rfl)
    (hline : (apos.endLine == cpos.line) = true := by rfl) (hs : starEach [e] X.env = (false, eval e X.env) :: starEach [] X.env := by rfl) (hplain : (backTo cpos (starEach [] X.env)).any (·.1) = false := by rfl) :
    SE X w (.Call (.Attribute o "count" apos) [e] [] cpos) (fMethL mCountB fo fs) :=
  PE.imp (pe_bm PySem.F.plainAttrs_list PySem.F.slot_list_count PySem.F.type_list_count mt_countF ho ha hbase hfew hline hs hplain) fun σ H Q h => go_methL ok_countB h
theorem se_indexB (ho : SE X w o fo) (ha : SA X w [e] fs) (hbase : attributeBase o "index" X.env (eval o X.env) = eval o X.env := by rfl)
    (hfew : ((backTo cpos (starEach [e] X.env)).all (fun x => !x.1) && (backToKw cpos (keywordEach [] X.env)).all (fun x => x.1.isSome) && decide (([e] : List Expr).length + ([] : List Keyword).length + (if ([] : List Keyword).isEmpty then 0 else 1) < 30)) = true := by rfl)
    (hline : (apos.endLine == cpos.line) = true := by rfl) (hs : starEach [e] X.env = (false, eval e X.env) :: starEach [] X.env := by rfl) (hplain : (backTo cpos (starEach [] X.env)).any (·.1) = false := by rfl) :
    SE X w (.Call (.Attribute o "index" apos) [e] [] cpos) (fMethL mIndexB fo fs) :=
  PE.imp (pe_bm PySem.F.plainAttrs_list PySem.F.slot_list_index PySem.F.type_list_index mt_index ho ha hbase hfew hline hs hplain) fun σ H Q h => go_methL ok_indexB h
end
/-! ### ints alone, without room -/
def oNeI : Op2 := fun x y S => match x, y with
  | .int i, .int j => some (.bl (!decide (i = j)), S)
  | _, _ => none
theorem ok_neI {X : Cx} : Ok2 (pg X) rNe oNeI := by
  intro B L ρ S S' H d1 d2 d' x y Q R r1 r2 e q
  cases r1 with
  | int i => cases r2 with
    | int j =>
      cases e
      refine ⟨rfl, ?_⟩
      have : decide (V.int i = V.int j) = decide (i = j) := decide_eq_decide.mpr ⟨fun z => by cases z; rfl, fun z => by rw [z]⟩
      rw [this]
      exact here (G := pg X) q R (.bl _)
    | _ => cases e
  | _ => cases r2 <;> cases e
/-! ### isinstance of the caught one -/
def fIsX (a : Addr) (i : Nat) (b : Bool) : FE := fun env S => match env[i]? with
  | some (.glob (.ref a')) => bif a' == a then .ok (.bl b) S else .bad
  | _ => .bad
section
variable {X : Cx} {w : Wx} {a D : Addr} {oe : Obj} {i : Nat} {n y : Str} {b : Bool} {np p yp pos : Pos}
theorem se_isX {c : V} {cv : Value} (C : ExcC X.K D) (hz : Zc (.ref D) none oe) (hf : ∃ vs, oe.data = .fields vs) (hp : (a, oe) ∈ X.pn) (hv : PE X (.Name n np) (tVar i)) (hc : PE X (.Name y yp) (tC c)) (hcv : ∀ u, RelV c u → u = cv) (hk : PySem.W.kitOne X.K (.ref D) cv = some b)
    (hm : X.mg "isinstance" = none) (hb : bootBuiltins "isinstance" = some (.builtin "isinstance")) (hg : Gl X "isinstance" := by rfl) :
    SE X w (.Call (.Name "isinstance" p) [.Name n np, .Name y yp] [] pos) (fIsX a i b) := by
  refine PE.imp (pe_callB (call_isP C hz hf hp) hg hm hb (pa_cons hv (pa_cons hc pa_nil)) (by decide) (by decide)) fun σ H Q ⟨B, L, ρ, S, env, A, g⟩ => ?_
  unfold fIsX at g
  cases q : env[i]? with
  | none => rw [q] at g; exact g.elim
  | some d =>
    rw [q] at g
    cases d with
    | glob v =>
      cases v with
      | ref a' =>
        simp only at g
        cases ha : a' == a with
        | false => rw [ha] at g; exact g.elim
        | true =>
          rw [ha] at g
          obtain rfl := beq_iff_eq.mp ha
          rcases A.re.at' i _ q with z | ⟨v, e1, r⟩
          · cases z
          · cases r
            exact ⟨.ref a', e1, c, cv, b, rfl, hcv, hk, GO.ok0 g A (.bl _)⟩
      | _ => exact g.elim
    | _ => exact g.elim
end
/-- the own exceptions' names, by their number -/
def xnm : List Str := ["InvalidForm", "InvalidRow", "InvalidSide", "InvalidChance", "Over", "NothingToUndo", "InvalidFormat"]
def xmOf (K : PySem.W.Frag) : XM := fun c => match PySem.W.nsIn K mainGlobals (xnm.getD c "") with
  | some (some v) => v
  | _ => .none
/-- what _law_which says of the c-th -/
def whD (c : Nat) : D := .tup [.str "raised", .int c]
/-- the classes as the caught one of class c sees them -/
structure XF (K : PySem.W.Frag) (mg : Str → Option Value) (c : Nat) (C : Addr) : Prop where
  ec : ExcC K C
  is : ∀ j, j < 7 → ∃ D, mg (xnm.getD j "") = some (.ref D) ∧ PySem.W.kitOne K (.ref C) (.ref D) = some (c == j)
  ve : PySem.W.kitOne K (.ref C) (.type "ValueError") = some true
end Sf
namespace Sf
open PySem PySem.Spec PyProof.Rows L2
/-- _law_which: the c-th was caught -/
def b_which (c : Nat) (a : Addr) : FS := sSeq (sAsg 1 (fLst true (fCons (fIsX a 0 (c == 0)) (fCons (fIsX a 0 (c == 1)) (fCons (fIsX a 0 (c == 2)) (fNil))))))
  (sSeq (sExpr (fMethL mExtend (fVar 1) (fCons (fLst false (fCons (fIsX a 0 (c == 3)) (fCons (fIsX a 0 (c == 4)) (fNil)))) (fNil))))
  (sSeq (sExpr (fMethL mExtend (fVar 1) (fCons (fLst false (fCons (fIsX a 0 (c == 5)) (fNil))) (fNil))))
  (sSeq (sExpr (fMethL mAppend (fVar 1) (fCons (fIsX a 0 (c == 6)) (fNil))))
  (sSeq (sIf (Sf.tOr (tVal (fOp2 oNeI (fMethL mCountB (fVar 1) (fCons (fCon (.bl true)) (fNil))) (fCon (.int 1)))) (tNot (tVal (fIsX a 0 true)))) (sRet (fTup (fCons (fCon (.str "raised")) (fCons (fOp1 oNeg (fCon (.int 1))) (fNil))))) (sSkip))
  (sRet (fTup (fCons (fCon (.str "raised")) (fCons (fMethL mIndexB (fVar 1) (fCons (fCon (.bl true)) (fNil))) (fNil)))))))))
theorem fIsX_at {a : Addr} {b : Bool} {env : En} {S : Sto} : fIsX a 0 b (.glob (.ref a) :: env) S = .ok (.bl b) S := by
  unfold fIsX
  simp
theorem sSeq_nx {f g : FS} {env e' : En} {S S' : Sto} (h : f env S = .nx e' S') : sSeq f g env S = g e' S' := by
  unfold sSeq
  rw [h]
  rfl
theorem b_which_run (c : Nat) (hc : c < 7) (a : Addr) : fn false 2 (b_which c a) [.glob (.ref a)] [] = .ok (whD c) [] := by
  have hI : ∀ (b : Bool) (d : D) (S : Sto), fIsX a 0 b [.glob (.ref a), d] S = .ok (.bl b) S := fun b d S => fIsX_at
  have s1 : ∀ c0 c1 c2 : Bool, sAsg 1 (fLst true (fCons (fIsX a 0 c0) (fCons (fIsX a 0 c1) (fCons (fIsX a 0 c2) (fNil))))) [.glob (.ref a), .und] [] = .nx [.glob (.ref a), .loc 0] [.lst [.bl c0, .bl c1, .bl c2]] := by
    intro c0 c1 c2
    unfold sAsg fLst
    simp only [fCons, hI, Out.bind]
    rfl
  have s2 : ∀ (c3 c4 : Bool) (l : List D), fit l.length = true → fit (l.length + 2) = true → sExpr (fMethL mExtend (fVar 1) (fCons (fLst false (fCons (fIsX a 0 c3) (fCons (fIsX a 0 c4) (fNil)))) (fNil))) [.glob (.ref a), .loc 0] [.lst l] = .nx [.glob (.ref a), .loc 0] [.lst (l ++ [.bl c3, .bl c4])] := by
    intro c3 c4 l h1 h2
    have e : fCons (fLst false (fCons (fIsX a 0 c3) (fCons (fIsX a 0 c4) (fNil)))) (fNil) [.glob (.ref a), .loc 0] [.lst l] = .ok [.lst [.bl c3, .bl c4]] [.lst l] := by
      simp only [fCons, fLst, hI, Out.bind]
      rfl
    unfold sExpr fMethL
    show Out.bindS ((bif true then (fCons (fLst false (fCons (fIsX a 0 c3) (fCons (fIsX a 0 c4) (fNil)))) (fNil) [.glob (.ref a), .loc 0] [.lst l]).bind fun xs S2 => outO (mExtend (.loc 0) xs S2) else .bad)) _ = _
    rw [e]
    show Out.bindS (outO (bif fit (l.length + 2) then some (D.non, [Ob.lst (l ++ [.bl c3, .bl c4])]) else none)) _ = _
    rw [h2]
    rfl
  have s3 : ∀ (c5 : Bool) (l : List D), fit (l.length + 1) = true → sExpr (fMethL mExtend (fVar 1) (fCons (fLst false (fCons (fIsX a 0 c5) (fNil))) (fNil))) [.glob (.ref a), .loc 0] [.lst l] = .nx [.glob (.ref a), .loc 0] [.lst (l ++ [.bl c5])] := by
    intro c5 l h2
    have e : fCons (fLst false (fCons (fIsX a 0 c5) (fNil))) (fNil) [.glob (.ref a), .loc 0] [.lst l] = .ok [.lst [.bl c5]] [.lst l] := by
      simp only [fCons, fLst, hI, Out.bind]
      rfl
    unfold sExpr fMethL
    show Out.bindS ((bif true then (fCons (fLst false (fCons (fIsX a 0 c5) (fNil))) (fNil) [.glob (.ref a), .loc 0] [.lst l]).bind fun xs S2 => outO (mExtend (.loc 0) xs S2) else .bad)) _ = _
    rw [e]
    show Out.bindS (outO (bif fit (l.length + 1) then some (D.non, [Ob.lst (l ++ [.bl c5])]) else none)) _ = _
    rw [h2]
    rfl
  have s4 : ∀ (c6 : Bool) (l : List D), fitS l.length = true → sExpr (fMethL mAppend (fVar 1) (fCons (fIsX a 0 c6) (fNil))) [.glob (.ref a), .loc 0] [.lst l] = .nx [.glob (.ref a), .loc 0] [.lst (l ++ [.bl c6])] := by
    intro c6 l h2
    have e : fCons (fIsX a 0 c6) (fNil) [.glob (.ref a), .loc 0] [.lst l] = .ok [.bl c6] [.lst l] := by
      unfold fCons
      rw [hI]
      rfl
    unfold sExpr fMethL
    show Out.bindS ((bif true then (fCons (fIsX a 0 c6) (fNil) [.glob (.ref a), .loc 0] [.lst l]).bind fun xs S2 => outO (mAppend (.loc 0) xs S2) else .bad)) _ = _
    rw [e]
    show Out.bindS (outO (bif fitS l.length then some (D.non, [Ob.lst (l ++ [.bl c6])]) else none)) _ = _
    rw [h2]
    rfl
  have s5 : ∀ (l : List D), mCountB (.loc 0) [.bl true] [.lst l] = some (.int 1, [.lst l]) → sIf (Sf.tOr (tVal (fOp2 oNeI (fMethL mCountB (fVar 1) (fCons (fCon (.bl true)) (fNil))) (fCon (.int 1)))) (tNot (tVal (fIsX a 0 true)))) (sRet (fTup (fCons (fCon (.str "raised")) (fCons (fOp1 oNeg (fCon (.int 1))) (fNil))))) (sSkip) [.glob (.ref a), .loc 0] [.lst l] = .nx [.glob (.ref a), .loc 0] [.lst l] := by
    intro l h
    have e : fMethL mCountB (fVar 1) (fCons (fCon (.bl true)) (fNil)) [.glob (.ref a), .loc 0] [.lst l] = .ok (.int 1) [.lst l] := by
      unfold fMethL
      show (bif true then outO (mCountB (.loc 0) [.bl true] [.lst l]) else .bad) = _
      rw [h]
      rfl
    unfold sIf Sf.tOr tVal fOp2
    rw [e]
    simp only [Out.bind, fCon, oNeI, outO]
    unfold tNot
    simp only [decide_true, Bool.not_true, cond_false]
    rw [hI]
    rfl
  unfold fn b_which
  have e1 : ([D.glob (.ref a)] ++ List.replicate (2 - [D.glob (.ref a)].length) D.und) = [.glob (.ref a), .und] := rfl
  rw [e1, sSeq_nx (s1 _ _ _), sSeq_nx (s2 _ _ _ rfl rfl), sSeq_nx (s3 _ _ rfl), sSeq_nx (s4 _ _ rfl)]
  match c, hc with
  | 0, _ => rw [sSeq_nx (s5 _ rfl)]; rfl
  | 1, _ => rw [sSeq_nx (s5 _ rfl)]; rfl
  | 2, _ => rw [sSeq_nx (s5 _ rfl)]; rfl
  | 3, _ => rw [sSeq_nx (s5 _ rfl)]; rfl
  | 4, _ => rw [sSeq_nx (s5 _ rfl)]; rfl
  | 5, _ => rw [sSeq_nx (s5 _ rfl)]; rfl
  | 6, _ => rw [sSeq_nx (s5 _ rfl)]; rfl
/-- the def that tells, and the class that catches all -/
structure Whs (P : Program) (w : World) (K : PySem.W.Frag) (mg : Str → Option Value) (base : Heap) (xm : XM) (cs : List Nat) (k : Nat) (g : Addr) (fd : FuncData) (SE : Addr) : Prop where
  hw : ∀ c, cs.contains c = true → FnE P w K mg base k g fd ["_law_error"] (xm c) (whD c)
  m : mg "_law_which" = some (.ref g)
  kp : PySem.W.keepIn K (.ref g) = true
  b : Binds K fd ["_law_error"] []
  gS : mg "ScoreError" = some (.ref SE)
  hex : ∀ c, cs.contains c = true → PySem.W.exmOne K (xm c) (.ref SE) = some true
end Sf
end

section
set_option Elab.async false
set_option maxRecDepth 100000
set_option linter.all false
/-! Se5: the small words that the generated derivations use. -/
namespace Sf
open PySem PySem.Spec PyProof.Rows L2
theorem bt_ValueError : bootBuiltins "ValueError" = some (.type "ValueError") := by decide +kernel
theorem lenS_of {fs : FA} {n : Nat} (h : LenA fs n) : ∀ env S ds S', fs env S = .ok ds S' → ds.length + 1 = n + 1 := fun env S ds S' e => by rw [h env S ds S' e]
structure Bdx (K : PySem.W.Frag) (mg : Str → Option Value) (C : Addr) : Prop where
  b : Bd K C
  g : mg "Board" = some (.ref C)
structure Dk (K : PySem.W.Frag) (C : Addr) (qual : Str) (st : Stmt) (ps : List Str) (a : Addr) (fd : FuncData) : Prop where
  F : Fun K "__init__" qual st a fd
  md : Mk K C a
  b : Binds K fd ps []
theorem xm_of {K : PySem.W.Frag} {c : Nat} {v : Value} (h : PySem.W.nsIn K mainGlobals (xnm.getD c "") = some (some v)) : xmOf K c = v := by
  unfold xmOf
  rw [h]
theorem kit_sub {K : PySem.W.Frag} {C D : Addr} {b : Bool} (hd : PySem.W.hasDictIn K D = true) (ht : PySem.W.typeIn K (.ref D) = some (.type "type")) (hcc : PySem.W.subIn K (.ref C) (.ref C) = some true) (hs : PySem.W.subIn K (.ref C) (.ref D) = some b) :
    PySem.W.kitOne K (.ref C) (.ref D) = some b := by
  unfold PySem.W.kitOne
  by_cases h : (Value.ref C == Value.ref D) = true
  · rw [if_pos h]
    have e : C = D := Value.ref.inj (beq_iff_eq.mp h)
    subst e
    rw [hcc] at hs
    exact hs
  · rw [if_neg h]
    obtain ⟨cd, hc, _⟩ := PySem.W.any_some hd
    have e2 : ((PySem.W.clsIn K D).isSome && PySem.W.typeIn K (.ref D) == some (.type "type")) = true := by rw [hc, ht] <;> rfl
    show (if ((PySem.W.clsIn K D).isSome && PySem.W.typeIn K (.ref D) == some (.type "type")) = true then PySem.W.subIn K (.ref C) (.ref D) else none) = some b
    rw [if_pos e2]
    exact hs
theorem kit_ve {K : PySem.W.Frag} {C : Addr} (hs : PySem.W.subIn K (.ref C) (.type "ValueError") = some true) : PySem.W.kitOne K (.ref C) (.type "ValueError") = some true := by
  unfold PySem.W.kitOne
  rw [if_neg (fun h => by cases beq_iff_eq.mp h)]
  show (if PySem.W.kitMeta "ValueError" = true then PySem.W.subIn K (.ref C) (.type "ValueError") else none) = some true
  rw [if_pos (by decide +kernel)]
  exact hs
end Sf
end

section
set_option Elab.async false
set_option maxRecDepth 100000
set_option linter.all false
/-! Se6: a def picked out of a list display and called; a def that gets places only where it must; list(range(n)). -/
namespace Sf
open PySem PySem.Spec PyProof.Rows L2
section
variable {X : Cx} {w : Wx} {n : Nat}
/-- defs by their names -/
inductive FnTab (X : Cx) (w : Wx) (n : Nat) : List Expr → List Addr → List Fn → Prop
  | nil : FnTab X w n [] [] []
  | cons {x : Str} {p : Pos} {es : List Expr} {f : Addr} {as : List Addr} {F : Fn} {Fs : List Fn} {k : Nat} {fd : FuncData} {ps : List Str} (hg : Gl X x) (hdb : (x == ("__debug__" : Str)) = false) (hm : X.mg x = some (.ref f)) (kp : PySem.W.keepIn X.K (.ref f) = true) (b : Binds X.K fd ps [])
      (FO : FnOk X.prog X.w X.K X.mg X.base (L2.CX X.prog X.w) k f fd ps (spOf (pg X) w.xm n F)) (hr : Room k X.A) (t : FnTab X w n es as Fs) : FnTab X w n (.Name x p :: es) (f :: as) (F :: Fs)
def fAddrs : List Addr → FA
  | [] => fNil
  | a :: as => fCons (fCon (.glob (.ref a))) (fAddrs as)
theorem fAddrs_run {env : En} {S : Sto} : ∀ as : List Addr, fAddrs as env S = .ok (as.map fun a => .glob (.ref a)) S
  | [] => rfl
  | a :: as => by
    show ((fAddrs as env S).bind fun xs S2 => .ok (.glob (.ref a) :: xs) S2) = _
    rw [fAddrs_run as]; rfl
theorem FnTab.sa {es : List Expr} {as : List Addr} {Fs : List Fn} (T : FnTab X w n es as Fs) : SA X w es (fAddrs as) := by
  induction T with
  | nil => exact sa_nil
  | cons hg hdb hm kp b FO hr t ih => exact sa_cons (se_con (pe_glob (v := .ref _) hg hm rfl hdb) fun _ _ _ => .glob (by intro z; cases z)) ih
theorem FnTab.get {es : List Expr} {as : List Addr} {Fs : List Fn} (T : FnTab X w n es as Fs) : ∀ {i : Nat} {F : Fn}, Fs[i]? = some F → ∃ a k fd ps, as[i]? = some a ∧ PySem.W.keepIn X.K (.ref a) = true ∧ Binds X.K fd ps [] ∧ FnOk X.prog X.w X.K X.mg X.base (L2.CX X.prog X.w) k a fd ps (spOf (pg X) w.xm n F) ∧ Room k X.A := by
  induction T with
  | nil => intro i F h; simp at h
  | cons hg hdb hm kp b FO hr t ih =>
    intro i F h
    cases i with
    | zero => simp at h; subst h; exact ⟨_, _, _, _, rfl, kp, b, FO, hr⟩
    | succ i =>
      obtain ⟨a, k, fd, ps, h1, h2⟩ := ih (by simpa using h)
      exact ⟨a, k, fd, ps, by simpa using h1, h2⟩
/-- [f, g, ..][i](..) -/
def fPickC (Fs : List Fn) (fi : FE) (fs : FA) : FE := fun env S => (fi env S).bind fun ix S1 => match ix with
  | .int k => bif decide (0 ≤ k) then (match Fs[k.toNat]? with
    | some F => (fs env S1).bind fun ds S2 => F ds S2
    | none => .bad) else .bad
  | _ => .bad
theorem se_pickC {es : List Expr} {as : List Addr} {Fs : List Fn} {ie e : Expr} {es2 : List Expr} {fi : FE} {fs : FA} {p1 p2 pos : Pos} (T : FnTab X w n es as Fs) (hfit : fit as.length = true) (tk : Takes X w.W) (hi : SE X w ie fi) (ha : SA X w (e :: es2) fs)
    (hlen : ∀ env S ds S', fs env S = .ok ds S' → ds.length = n) (hpx : PlainIx ie := by intro _ _; rfl)
    (ht : eval (.Call (.Subscript (.List es p1) ie p2) (e :: es2) [] pos) X.env = (do callWith pos (← eval (.Subscript (.List es p1) ie p2) X.env) [] (backTo pos (starEach (e :: es2) X.env)) (backToKw pos (keywordEach [] X.env))) := by rfl)
    (he : starEach (e :: es2) X.env = (false, eval e X.env) :: starEach es2 X.env := by rfl) (hpl : (backTo pos (starEach es2 X.env)).any (·.1) = false := by rfl) :
    SE X w (.Call (.Subscript (.List es p1) ie p2) (e :: es2) [] pos) (fPickC Fs fi fs) := by
  have hf : SE X w (.Subscript (.List es p1) ie p2) (fOp2 oIx (fLst false (fAddrs as)) fi) := se_ix ixr ok_ix (se_lst (m := false) T.sa) hi hpx
  refine ⟨fun pins s σ H Q I h => ?_⟩
  have h2 : tE (pg X) w.W w.xm (fOp2 oIx (fLst false (fAddrs as)) fi) σ H fun y H1 => ∃ a k fd ps F, y = V.ref a ∧ PySem.W.keepIn X.K (.ref a) = true ∧ Binds X.K fd ps [] ∧ FnOk X.prog X.w X.K X.mg X.base (L2.CX X.prog X.w) k a fd ps (spOf (pg X) w.xm n F) ∧ Room k X.A ∧
      tA (pg X) w.W w.xm fs σ H1 fun vs H2 => spOf (pg X) w.xm n F vs H2 Q (WE w.W σ) := by
    obtain ⟨B, L, ρ, S, env, A, gg⟩ := h
    refine ⟨B, L, ρ, S, env, A, ?_⟩
    have e1 : fOp2 oIx (fLst false (fAddrs as)) fi env S = (fi env S).bind fun ix S1 => outO (oIx (.lst (as.map fun a => .glob (.ref a))) ix S1) := by
      show (((fAddrs as env S).bind fun xs S1 => outO (mkL false xs S1)).bind fun x S1 => (fi env S1).bind fun y S2 => outO (oIx x y S2)) = _
      rw [fAddrs_run]
      show ((outO (mkL false (as.map fun a => .glob (.ref a)) S)).bind fun x S1 => (fi env S1).bind fun y S2 => outO (oIx x y S2)) = _
      unfold mkL
      rw [List.length_map, hfit]
      rfl
    rw [e1]
    revert gg
    unfold fPickC
    cases fi env S with
    | exc c S' => exact fun g => g
    | bad => exact fun g => g
    | ok ix S1 =>
      intro gg
      cases ix with
      | int k =>
        have gg : GO (pg X) w.W w.xm B L ρ H σ (rD (pg X) B) (bif decide (0 ≤ k) then (match Fs[k.toNat]? with
          | some F => (fs env S1).bind fun ds S2 => F ds S2
          | none => .bad) else .bad) Q := gg
        cases hk : decide (0 ≤ k) with
        | false => rw [hk] at gg; exact gg.elim
        | true =>
          rw [hk] at gg
          cases hF : Fs[k.toNat]? with
          | none => rw [hF] at gg; exact gg.elim
          | some F =>
            rw [hF] at gg
            obtain ⟨a, kk, fd, ps, h1, h2, h3, h4, h5⟩ := T.get hF
            have ex : oIx (.lst (as.map fun a => .glob (.ref a))) (.int k) S1 = some (.glob (.ref a), S1) := by
              show (match ixD (as.map fun a => .glob (.ref a)) k with
                | some d => some (d, S1)
                | none => none) = _
              have : ixD (as.map fun a => D.glob (.ref a)) k = some (.glob (.ref a)) := by
                unfold ixD
                rw [hk]
                show (as.map fun a => D.glob (.ref a))[k.toNat]? = _
                rw [List.getElem?_map, h1]; rfl
              rw [this]
            show GO (pg X) w.W w.xm B L ρ H σ (rD (pg X) B) (outO (oIx (.lst (as.map fun a => .glob (.ref a))) (.int k) S1)) _
            rw [ex]
            intro v ρ1 H1 p1 R1 r1
            cases r1
            refine ⟨a, kk, fd, ps, F, rfl, h2, h3, h4, h5, B, L, ρ1, S1, env, A.step p1 R1, ?_⟩
            have g1 := GO.step gg p1
            revert g1
            show GO (pg X) w.W w.xm B L ρ1 H1 σ (rD (pg X) B) ((fs env S1).bind fun ds S2 => F ds S2) Q → _
            cases hfs : fs env S1 with
            | exc c S' => exact fun g => g
            | bad => exact fun g => g
            | ok ds S2 =>
              intro g vs ρ' H' pp R r
              have g' : GO (pg X) w.W w.xm B L ρ' H' σ (rD (pg X) B) (F ds S2) Q := GO.step g pp
              refine ⟨by rw [← RVs.length r]; exact hlen _ _ _ _ hfs, B, L, ρ', S2, ds, R, r, ?_⟩
              revert g'
              cases F ds S2 with
              | ok d S3 => exact fun g => g
              | exc c S3 => exact fun g => g
              | bad => exact fun g => g
      | _ => exact gg.elim
  refine Call_ (thn (hf.run pins s σ H _ I h2) fun u s1 ⟨y, H1, I1, ry, a, k, fd, ps, F, ey, kp, b, FO, hr, q⟩ => ?_) ht
  subst ey
  obtain rfl : u = Value.ref a := ry
  refine PySem.W.callWith_K (h₀ := X.base) I1.ok.mod.kin kp (thn (ha.run pos pins s1 σ H1 _ I1 q) fun us s2 ⟨vs, H2, I2, r, q2⟩ => ⟨I2.kIn, ?_⟩) he hpl
  exact run_fnS FO hr b (passAt tk σ) I2 r q2
/-- the store is handed on only where a place is handed in -/
def splitF (F : Fn) : Fn := fun ds S => bif lowL 0 ds then pureF F ds S else F ds S
theorem spOf_split {G : Pg} {xm : XM} {n : Nat} {F : Fn} {vs : List V} {H : Hp} {Q : VK} {E : XK} (h : spOf G xm n (splitF F) vs H Q E) : spOf G xm n F vs H Q E := by
  obtain ⟨hl, B, L, ρ, S, ds, R, r, g⟩ := h
  unfold splitF at g
  cases hlow : lowL 0 ds with
  | true => rw [hlow] at g; exact spOf_pure ⟨hl, B, L, ρ, S, ds, R, r, g⟩
  | false => rw [hlow] at g; exact ⟨hl, B, L, ρ, S, ds, R, r, g⟩
theorem fn_split {P : Program} {w : World} {K : PySem.W.Frag} {mg : Str → Option Value} {base : Heap} {G : Pg} {xm : XM} {k n : Nat} {f : Addr} {fd : FuncData} {ps : List Str} {F : Fn} (h : FnOk P w K mg base (L2.CX P w) k f fd ps (spOf G xm n F)) : FnOk P w K mg base (L2.CX P w) k f fd ps (spOf G xm n (splitF F)) :=
  h.imp fun vs H Q E => spOf_split
theorem split_low {F : Fn} {ds : List D} {S : Sto} (h : lowL 0 ds = true) : splitF F ds S = pureF F ds S := by unfold splitF; rw [h]; rfl
/-- list(range(n)) -/
def fListRng (m : Bool) (fa : FE) : FE := fun env S => (fa env S).bind fun x S1 => match x with
  | .int i => bif smallI i then outO (mkL m (rngL 0 i.toNat) S1) else .bad
  | _ => .bad
theorem rv_rng {K : PySem.W.Frag} {B ρ : List Addr} {H : Hp} : ∀ (n : Nat) (a : Nat), RVs K B ρ H (rngL (a : Int) n) ((List.range' a n).map fun i => V.int ((i : Nat) : Int))
  | 0, a => .nil
  | n + 1, a => by
    rw [List.range'_succ, List.map_cons]
    show RVs K B ρ H (.int a :: rngL ((a : Int) + 1) n) _
    exact .cons (.int _) (rv_rng n (a + 1))
theorem se_listRng {m : Bool} {a : Expr} {fa : FE} {p p2 pos pos2 : Pos} (hc : X.calm = true) (hl : X.mg "list" = none) (hr : X.mg "range" = none) (ha : SE X w a fa) (gl : Gl X "list" := by rfl) (gr : Gl X "range" := by rfl)
    (na : starEach [a] X.env = (false, eval a X.env) :: starEach [] X.env := by rfl) (nb : starEach [.Call (.Name "range" p2) [a] [] pos2] X.env = (false, eval (.Call (.Name "range" p2) [a] [] pos2) X.env) :: starEach [] X.env := by rfl) :
    SE X w (.Call (.Name "list" p) [.Call (.Name "range" p2) [a] [] pos2] [] pos) (fListRng m fa) :=
  PE.imp (pe_listRg hc gl hl (prg_1 gr hr ha na) nb) fun σ H Q ⟨B, L, ρ, S, env, A, gg⟩ => by
    refine tE_mono (tE_bind (rel := rD (pg X)) A gg) fun x H1 ⟨B, L, ρ, S, d, A, r, g⟩ => ?_
    cases r with
    | int i =>
      simp only at g
      cases hs : smallI i with
      | false => rw [hs] at g; exact g.elim
      | true =>
        rw [hs] at g
        obtain ⟨d', S', e, q⟩ := GO.outO (α := D) g
        obtain ⟨h1, h2⟩ := smallI_ok hs
        have rv : RVs X.K B ρ H1 (rngL 0 i.toNat) (rgV 0 i) := by
          have := rv_rng (K := X.K) (B := B) (ρ := ρ) (H := H1) i.toNat 0
          unfold rgV
          rw [Int.sub_zero, List.range_eq_range']
          have e0 : ((fun i : Nat => V.int (0 + ((i : Nat) : Int))) : Nat → V) = fun i => V.int ((i : Nat) : Int) := by funext j; rw [Int.zero_add]
          rw [e0]
          exact this
        obtain ⟨k1, k2⟩ := mkL_ok (G := pg X) A.rh rv e q
        have kl : i.toNat ≤ sizeLine := by
          have := k1
          rw [rgV_length, Int.sub_zero] at this
          exact this
        refine ⟨i, rfl, ⟨by omega, by omega, h1, h2, by rw [Int.sub_zero]; rw [sizeLine_eq] at kl; omega⟩, k2⟩
    | _ => exact g.elim
end
end Sf
end

section
set_option Elab.async false
set_option maxRecDepth 100000
set_option linter.all false
/-! Se7: a comprehension over a list that may be a place. -/
namespace Sf
open PySem PySem.Spec PyProof.Rows L2 RZ
def compV (g : D → En → Option En) (fe : FE) (env : En) (n : Nat) : Nat → Nat → Sto → Out (List D)
  | 0, _, _ => .bad
  | k + 1, i, S => match S[n]? with
    | some (.lst l) => match l[i]? with
      | none => .ok [] S
      | some d => match g d env with
        | none => .bad
        | some env1 => match fe env1 S with
          | .ok z S2 => (match compV g fe env n k (i + 1) S2 with
            | .ok zs S3 => .ok (z :: zs) S3
            | r => r)
          | .exc c S2 => .exc c S2
          | .bad => .bad
    | _ => .bad
def fCompD (m : Bool) (fa : FE) (g : D → En → Option En) (fe : FE) (vs : List Nat) : FE := fun env S => (fa env S).bind fun x S1 => match x with
  | .loc n => match S1[n]? with
    | some (.lst l) => match compV g fe (undE env vs) n (l.length + 1) 0 S1 with
      | .ok xs S2 => bif fit xs.length then (bif m then .ok (.loc S2.length) (S2 ++ [.lst xs]) else .ok (.lst xs) S2) else .bad
      | _ => .bad
    | _ => .bad
  | _ => .bad
section
variable {X : Cx} {w : Wx} {fa fe : FE} {g : D → En → Option En} {t : TG} {is : List Nat}
theorem compD_ok {m : Bool} {vs : List Nat} (hg : TgOk X.K t g is) (hv : ∀ i ∈ is, i ∈ vs) {σ : L2.St} {H : Hp} {Q : VK} (h : tE (pg X) w.W w.xm (fCompD m fa g fe vs) σ H Q) :
    tLc (iSeq X.K (tE (pg X) w.W w.xm fa)) t (tT (pg X) W0 w.xm tYesF) (tE (pg X) W0 w.xm fe) vs σ H Q := by
  obtain ⟨B, L, ρ, S, env, A, gg⟩ := h
  refine ⟨B, L, ρ, S, env, A, ?_⟩
  revert gg
  unfold fCompD
  cases fa env S with
  | exc c S' => exact fun g => g
  | bad => exact fun g => g
  | ok d S' =>
    intro gg v ρ1 H1 p R r
    have g1 := GO.step gg p
    have A1 := A.step p R
    cases r with
    | @loc n a h =>
      have g1 : GO (pg X) w.W w.xm B L ρ1 H1 σ (rD (pg X) B) (match S'[n]? with
        | some (.lst l) => (match compV g fe (undE env vs) n (l.length + 1) 0 S' with
          | .ok xs S2 => bif fit xs.length then (bif m then Out.ok (D.loc S2.length) (S2 ++ [Ob.lst xs]) else Out.ok (D.lst xs) S2) else Out.bad
          | _ => Out.bad)
        | _ => Out.bad) Q := g1
      cases q1 : S'[n]? with
      | none => rw [q1] at g1; exact g1.elim
      | some ob =>
        rw [q1] at g1
        cases ob with
        | lst l =>
          simp only at g1
          obtain ⟨vs0, h1, h2⟩ := R.ob n a _ h q1
          cases hc : compV g fe (undE env vs) n (l.length + 1) 0 S' with
          | exc c S2 => rw [hc] at g1; exact g1.elim
          | bad => rw [hc] at g1; exact g1.elim
          | ok xs S2 =>
            rw [hc] at g1
            simp only at g1
            cases hfit : fit xs.length with
            | false => rw [hfit] at g1; exact g1.elim
            | true =>
              rw [hfit] at g1
              have g2 : GO (pg X) w.W w.xm B L ρ1 H1 σ (rD (pg X) B) (bif m then Out.ok (.loc S2.length) (S2 ++ [.lst xs]) else .ok (.lst xs) S2) Q := g1
              refine ⟨a, rfl, .inl ⟨⟨vs0, .inl (.inl h1)⟩, fun D hD => ?_⟩⟩
              have hDB : D ∉ B := (R.fresh hD).2
              have hDL : D ∉ L := fun z => by obtain ⟨o, u, q⟩ := R.lk D z; rw [hD] at q; cases q
              refine ⟨fun i m H => ∃ ρ S acc accD ys, RH (pg X) (D :: B) L ρ H S ∧ RE X.K (D :: B) ρ H (undE env vs) (wipe σ vs) ∧ ρ[n]? = some a ∧ H D = some (.lst acc) ∧ RVs X.K (D :: B) ρ H accD acc ∧
                Post L ρ1 H1 ρ H ∧ compV g fe (undE env vs) n m i S = .ok ys S2 ∧ accD ++ ys = xs,
                ⟨l.length + 1, ρ1, S', [], [], xs, R.addB hD, (A1.re.wipe vs).addB hD, h, upd_same, .nil, Post.newV hD, hc, rfl⟩, ?_⟩
              rintro i k H ⟨ρ, S, acc, accD, ys, RH1, re1, hn, hDa, ra, ps, hcl, hxs⟩
              cases k with
              | zero => cases hcl
              | succ k =>
                unfold compV at hcl
                cases q2 : S[n]? with
                | none => rw [q2] at hcl; cases hcl
                | some ob2 =>
                  rw [q2] at hcl
                  cases ob2 with
                  | lst l2 =>
                    simp only at hcl
                    obtain ⟨vs2, h3, h4⟩ := RH1.ob n a _ hn q2
                    cases q3 : l2[i]? with
                    | none =>
                      rw [q3] at hcl
                      simp only at hcl
                      cases hcl
                      rw [List.append_nil] at hxs
                      subst hxs
                      refine .inl ⟨⟨vs2, .inl (.inl h3), by rw [← h4.length]; exact List.getElem?_eq_none_iff.mp q3⟩, ?_⟩
                      have hDρ : D ∉ ρ := fun z => RH1.dj D z List.mem_cons_self
                      cases m with
                      | false => exact g2 (.ref D) ρ H ps (RH1.reB fun a z => List.mem_cons_of_mem _ z) (.lst hDB hDρ hDa (ra.re (fun a z => z.imp (List.mem_cons_of_mem _) id) fun _ _ z => z))
                      | true =>
                        refine g2 (.ref D) (ρ ++ [D]) H ⟨ps.ext, ?_, fun a z => (List.mem_append.mp z).elim (ps.new a) fun z => ?_⟩ (RH1.addL hDB hDa ra) (.loc ?_)
                        · obtain ⟨tt, e⟩ := ps.pre; exact ⟨tt ++ [D], by rw [e, List.append_assoc]⟩
                        · simp at z; rw [z]; exact .inr hD
                        · rw [← RH1.len, List.getElem?_append_right (Nat.le_refl _)]; simp
                    | some d2 =>
                      rw [q3] at hcl
                      simp only at hcl
                      obtain ⟨v2, e2, r2⟩ := h4.get q3
                      refine .inr ⟨⟨vs2, v2, .inl (.inl h3), e2⟩, fun H => ∃ ρ S acc accD ys, RH (pg X) (D :: B) L ρ H S ∧ RE X.K (D :: B) ρ H (undE env vs) (wipe σ vs) ∧ ρ[n]? = some a ∧ H D = some (.lst acc) ∧ RVs X.K (D :: B) ρ H accD acc ∧
                        Post L ρ1 H1 ρ H ∧ compV g fe (undE env vs) n k (i + 1) S = .ok ys S2 ∧ accD ++ ys = xs, fun H' h => ⟨k, Nat.lt_succ_self k, h⟩, ?_⟩
                      rintro x H3 ⟨rfl, y⟩
                      have hy := y vs2 (.inl (.inl h3))
                      rw [e2] at hy; cases hy
                      cases hu : g d2 (undE env vs) with
                      | none => rw [hu] at hcl; cases hcl
                      | some env1 =>
                        rw [hu] at hcl
                        simp only at hcl
                        refine hg (D :: B) L ρ _ d2 v2 (undE env vs) env1 (wipe σ vs) _ r2 re1 hu fun σ3 re3 hw => ⟨(hw vs hv).trans (wipe_idem vs), ?_⟩
                        refine ⟨D :: B, L, ρ, S, env1, ⟨RH1, re3⟩, ?_⟩
                        intro b' ρ4 H4 p4 R4 hb
                        have hb : true = b' := hb
                        subst hb
                        have hDρ : D ∉ ρ := fun z => RH1.dj D z List.mem_cons_self
                        have e4 : H4 D = some (.lst acc) := p4.ext D _ (.inl hDρ) hDa
                        refine iteT ?_
                        cases he : fe env1 S with
                        | exc c S5 => rw [he] at hcl; cases hcl
                        | bad => rw [he] at hcl; cases hcl
                        | ok z S5 =>
                          rw [he] at hcl
                          simp only at hcl
                          cases hcr : compV g fe (undE env vs) n k (i + 1) S5 with
                          | exc c S6 => rw [hcr] at hcl; cases hcl
                          | bad => rw [hcr] at hcl; cases hcl
                          | ok zs S6 =>
                            rw [hcr] at hcl
                            cases hcl
                            refine ⟨D :: B, L, ρ4, S, env1, ⟨R4, re3.mono p4⟩, ?_⟩
                            rw [he]
                            intro y5 ρ5 H5 p5 R5 r5
                            have hD4 : D ∉ ρ4 := fun z => R4.dj D z List.mem_cons_self
                            have e5 : H5 D = some (.lst acc) := p5.ext D _ (.inl hD4) e4
                            have ps5 : Post L ρ1 H1 ρ5 H5 := ps.trans (p4.trans p5)
                            refine ⟨acc, e5, ?_, ρ5, S5, acc ++ [y5], accD ++ [z], zs, R5.av List.mem_cons_self hDL, ((re1.mono p4).mono p5).av List.mem_cons_self, p5.at (p4.at hn), upd_same,
                              ((RVs.mono p5 _ _ (RVs.mono p4 _ _ ra)).append (.cons r5 .nil)).av List.mem_cons_self, ⟨fun a u ha hu => ?_, ps5.pre, ps5.new⟩, hcr, by rw [← hxs]; simp⟩
                            · rw [← ra.length]
                              have := fit_le hfit
                              rw [← hxs] at this
                              simp at this
                              omega
                            · rw [upd_ne (ne_of_none hu hD)]
                              exact ps5.ext a u ha hu
                  | _ => cases hcl
        | _ => exact g1.elim
    | _ => exact g1.elim
theorem se_lcD {m : Bool} {tg iter elt : Expr} {scope : Scope} {own : List (Str × Nat)} {pos : Pos} (hc : X.calm = true) (hN : X.N.Nodup) (ok : BlkOk X.N X.env.scope scope own) (hv : ∀ i ∈ is, i ∈ own.map (·.2)) (hi : SE X w iter fa)
    (hg : ∀ (s : Shared) (H : Hp) (C : Addr) (cl : List (Str × Addr)) (fp : List Addr), PG (X.blk s H scope (compEnvC scope cl C X.env) fp) tg t) (hk : TgOk X.K t g is)
    (he : ∀ (s : Shared) (H : Hp) (C : Addr) (cl : List (Str × Addr)) (fp : List Addr), SE (X.blk s H scope (compEnvC scope cl C X.env) fp) (wB w) elt fe) (hs : ∀ x, foldedSetIterable iter X.env x = pure x := by intro _; rfl) :
    SE X w (.ListComp elt [⟨tg, iter, [], 0⟩] scope pos) (fCompD m fa g fe (own.map (·.2))) :=
  PE.imp (pe_lc (wi := iSeq X.K (tE (pg X) w.W w.xm fa)) hc hN (pi_seq hi) ok hg (fun _ _ _ _ _ => spt_nil (w := wB w)) he hs) fun σ H Q h =>
    compD_ok (X := X) (w := w) (is := is) hk hv h
end
end Sf
end

section
set_option Elab.async false
set_option maxRecDepth 100000
set_option linter.all false
/-! Se9: l.insert(i, x); e or []; a comprehension over a list or a place; a def that hands out a new list, or None. -/
namespace Sf
open PySem PySem.Spec PyProof.Rows L2
def mInsert : OpM := fun o xs S => match o, xs with
  | .loc n, [.int i, x] => match S[n]? with
    | some (.lst l) => bif fitS l.length && (decide (0 ≤ i) && decide (i < 1000)) then some (.non, S.set n (.lst (l.take i.toNat ++ [x] ++ l.drop i.toNat))) else none
    | _ => none
  | _, _ => none
/-- e or b, e a place of a list or None -/
def fOrL (a b : FE) : FE := fun env S => (a env S).bind fun x S1 => match x with
  | .non => b env S1
  | .loc n => match S1[n]? with
    | some (.lst l) => bif l.isEmpty then b env S1 else .ok (.loc n) S1
    | _ => .bad
  | _ => .bad
/-- a comprehension over a list or a place -/
def fCompM (m : Bool) (fa : FE) (g : D → En → Option En) (fe : FE) (vs : List Nat) : FE := fun env S => match fa env S with
  | .ok (.loc _) _ => fCompD m fa g fe vs env S
  | _ => fComp m (iSq fa) g tYesF fe vs env S
section
variable {X : Cx} {w : Wx} {o e a b : Expr} {es : List Expr} {fo fa fb fe : FE} {fs : FA} {pos apos cpos : Pos} {g : D → En → Option En} {t : TG} {is : List Nat}
theorem ok_insert : OkM (pg X) (fun x vs H Q => ∃ (l : Addr) (xs : List V) (i : Int) (y : V), x = .ref l ∧ vs = [.int i, y] ∧ H l = some (.lst xs) ∧ xs.length < sizeLine ∧ 0 ≤ i ∧ i < 2 ^ 63 ∧
    Q .non (upd H l (.lst (xs.take i.toNat ++ [y] ++ xs.drop i.toNat)))) mInsert := by
  intro B L ρ S S' H o ds d' x xs Q R ro rs e q
  match o, ds, e with
  | .loc n, [.int i, d], e =>
    cases rs with
    | cons ri rs =>
      obtain ⟨y, rfl, r⟩ := rvs1 rs
      cases ri
      cases ro with
      | @loc _ a h =>
        unfold mInsert at e
        simp only at e
        cases q1 : S[n]? with
        | none => rw [q1] at e; cases e
        | some ob =>
          rw [q1] at e
          cases ob with
          | lst l =>
            simp only at e
            cases hf : (fitS l.length && (decide (0 ≤ i) && decide (i < 1000))) with
            | false => rw [hf] at e; cases e
            | true =>
              rw [hf] at e; cases e
              simp only [Bool.and_eq_true, decide_eq_true_eq] at hf
              obtain ⟨vs, h1, h2⟩ := R.ob n a _ h q1
              have hl : a ∉ L := R.notL h1 fun _ _ z => nomatch z
              refine ⟨a, vs, i, y, rfl, rfl, h1, by rw [← h2.length]; exact fitS_lt hf.1, hf.2.1, by omega, q .non ρ _ (Post.wr h hl) (R.wr h hl ⟨_, upd_same, RVs.mono (Post.wr (L := L) h hl) _ _ ?_⟩) .non⟩
              exact ((h2.take _).append (.cons r .nil)).append (h2.drop _)
          | _ => cases e
theorem se_insert {e2 : Expr} (ho : SE X w o fo) (ha : SA X w [e, e2] fs) (hbase : attributeBase o "insert" X.env (eval o X.env) = eval o X.env := by rfl)
    (hfew : ((backTo cpos (starEach [e, e2] X.env)).all (fun x => !x.1) && (backToKw cpos (keywordEach [] X.env)).all (fun x => x.1.isSome) && decide (([e, e2] : List Expr).length + ([] : List Keyword).length + (if ([] : List Keyword).isEmpty then 0 else 1) < 30)) = true := by rfl)
    (hline : (apos.endLine == cpos.line) = true := by rfl) (hs : starEach [e, e2] X.env = (false, eval e X.env) :: starEach [e2] X.env := by rfl) (hplain : (backTo cpos (starEach [e2] X.env)).any (·.1) = false := by rfl) :
    SE X w (.Call (.Attribute o "insert" apos) [e, e2] [] cpos) (fMethL mInsert fo fs) :=
  PE.imp (pe_bm PySem.F.plainAttrs_list PySem.F.slot_list_insert PySem.F.type_list_insert mt_insert ho ha hbase hfew hline hs hplain) fun σ H Q h => go_methL ok_insert h
theorem se_orL (ha : SE X w a fa) (hb : SE X w b fb) : SE X w (.BoolOp .Or [a, b] pos) (fOrL fa fb) :=
  PE.imp (pe_orT ha (pe_one hb)) fun σ H Q ⟨B, L, ρ, S, env, A, gg⟩ => tE_mono (tE_bind (rel := rD (pg X)) A gg) fun x H1 ⟨B, L, ρ, S, d, A, r, g⟩ => by
    cases r with
    | non => exact ⟨false, rfl, iteF ⟨B, L, ρ, S, env, A, g⟩⟩
    | @loc n a h =>
      simp only at g
      cases q1 : S[n]? with
      | none => rw [q1] at g; exact g.elim
      | some ob =>
        rw [q1] at g
        cases ob with
        | lst l =>
          simp only at g
          obtain ⟨vs, h1, h2⟩ := A.rh.ob n a _ h q1
          refine ⟨!vs.isEmpty, .inl ⟨vs, .inl (.inl h1), rfl⟩, ?_⟩
          have he : vs.isEmpty = l.isEmpty := by
            have := h2.length
            cases l <;> cases vs <;> simp at this ⊢
          rw [he]
          cases hl : l.isEmpty with
          | true => rw [hl] at g; exact iteF ⟨B, L, ρ, S, env, A, g⟩
          | false => rw [hl] at g; exact iteT (GO.ok0 g A (.loc h))
        | _ => exact g.elim
    | _ => exact g.elim
theorem seq_I {σ : L2.St} {H : Hp} {R : It → Hp → Prop} (h : tI (pg X) w.W w.xm (iSq fe) σ H R) : iSeq X.K (tE (pg X) w.W w.xm fe) σ H R := by
  obtain ⟨B, L, ρ, S, env, A, g⟩ := h
  exact tE_mono (tE_bindL (rel := rJ (pg X)) A g) fun x H1 ⟨B, L, ρ, S, d, A, r, g⟩ => by
    cases r with
    | tup h r => exact ⟨_, rfl, .inr ⟨⟨_, h.sq⟩, GO.ok0 g A ⟨_, walk_tup, h, r⟩⟩⟩
    | lst h1 h2 h3 r => exact ⟨_, rfl, .inl ⟨⟨_, .inl (.inl h3)⟩, GO.ok0 g A ⟨_, walk_scr, .inl ⟨h1, h2, .inl h3⟩, r⟩⟩⟩
    | scr h r => exact ⟨_, rfl, .inl ⟨⟨_, h.sq⟩, GO.ok0 g A ⟨_, walk_scr, h, r⟩⟩⟩
    | _ => exact g.elim
theorem compM_ok {m : Bool} {vs : List Nat} (hk : TgOk X.K t g is) (hv : ∀ i ∈ is, i ∈ vs) {σ : L2.St} {H : Hp} {Q : VK} (h : tE (pg X) w.W w.xm (fCompM m fa g fe vs) σ H Q) :
    tLc (iSeq X.K (tE (pg X) w.W w.xm fa)) t (tT (pg X) W0 w.xm tYesF) (tE (pg X) W0 w.xm fe) vs σ H Q := by
  obtain ⟨B, L, ρ, S, env, A, gg⟩ := h
  have other : GO (pg X) w.W w.xm B L ρ H σ (rD (pg X) B) (fComp m (iSq fa) g tYesF fe vs env S) Q → tLc (iSeq X.K (tE (pg X) w.W w.xm fa)) t (tT (pg X) W0 w.xm tYesF) (tE (pg X) W0 w.xm fe) vs σ H Q := fun gg =>
    seq_I (comp_ok (X := X) (w := w) (is := is) (m := m) (fi := iSq fa) (ft := tYesF) hk hv ⟨B, L, ρ, S, env, A, gg⟩)
  revert gg
  unfold fCompM
  cases hfa : fa env S with
  | exc c S' => exact other
  | bad => exact other
  | ok d S' =>
    cases d with
    | loc n => exact fun gg => compD_ok (X := X) (w := w) (is := is) hk hv ⟨B, L, ρ, S, env, A, gg⟩
    | _ => exact other
theorem se_lcM {m : Bool} {tg iter elt : Expr} {scope : Scope} {own : List (Str × Nat)} {pos : Pos} (hc : X.calm = true) (hN : X.N.Nodup) (ok : BlkOk X.N X.env.scope scope own) (hv : ∀ i ∈ is, i ∈ own.map (·.2)) (hi : SE X w iter fa)
    (hg : ∀ (s : Shared) (H : Hp) (C : Addr) (cl : List (Str × Addr)) (fp : List Addr), PG (X.blk s H scope (compEnvC scope cl C X.env) fp) tg t) (hk : TgOk X.K t g is)
    (he : ∀ (s : Shared) (H : Hp) (C : Addr) (cl : List (Str × Addr)) (fp : List Addr), SE (X.blk s H scope (compEnvC scope cl C X.env) fp) (wB w) elt fe) (hs : ∀ x, foldedSetIterable iter X.env x = pure x := by intro _; rfl) :
    SE X w (.ListComp elt [⟨tg, iter, [], 0⟩] scope pos) (fCompM m fa g fe (own.map (·.2))) :=
  PE.imp (pe_lc (wi := iSeq X.K (tE (pg X) w.W w.xm fa)) hc hN (pi_seq hi) ok hg (fun _ _ _ _ _ => spt_nil (w := wB w)) he hs) fun σ H Q h => compM_ok hk hv h
theorem ss_setLcM {m : Bool} {tg iter elt : Expr} {scope : Scope} {own : List (Str × Nat)} {pos : Pos} {i : Nat} {y : Str} {py spos : Pos} (hc : X.calm = true) (hN : X.N.Nodup) (hy : X.N[i]? = some y) (hyl : X.env.scope.names.lookup y = some .local) (hsw : swapsWith (.ListComp elt [⟨tg, iter, [], 0⟩] scope pos) (some (.Name y py)) spos.line X.env = pure true)
    (ok : BlkOk X.N X.env.scope scope own) (hv : ∀ i ∈ is, i ∈ own.map (·.2)) (hi : SE X w iter fa)
    (hg : ∀ (s : Shared) (H : Hp) (C : Addr) (cl : List (Str × Addr)) (fp : List Addr), PG (X.blk s H scope (compEnvC scope cl C X.env) fp) tg t) (hk : TgOk X.K t g is)
    (he : ∀ (s : Shared) (H : Hp) (C : Addr) (cl : List (Str × Addr)) (fp : List Addr), SE (X.blk s H scope (compEnvC scope cl C X.env) fp) (wB w) elt fe) (hs : ∀ x, foldedSetIterable iter X.env x = pure x := by intro _; rfl) :
    SS X w (.Assign [.Name y py] (.ListComp elt [⟨tg, iter, [], 0⟩] scope pos) spos) (sAsg i (fCompM m fa g fe (own.map (·.2)))) :=
  ss_set' (ps_setLc (wi := iSeq X.K (tE (pg X) w.W w.xm fa)) hc hN hy hyl hsw (pi_seq hi) ok hg (fun _ _ _ _ _ => spt_nil (w := wB w)) he hs) fun σ H Q h => compM_ok hk hv h
end
/-- a new list is handed out, anything else as a value -/
def endN (n : Nat) (d : D) (S : Sto) : Out D := match d with
  | .loc i => endM n (.loc i) S
  | d => endF n d S
def fnN (N : Nat) (b : FS) : Fn := fun ds S => match b (ds ++ List.replicate (N - ds.length) .und) S with
  | .rt (.loc i) S' => fnEnd true S.length (.rt (.loc i) S')
  | r => fnEnd false S.length r
section
variable {P : Program} {w : World} {K : PySem.W.Frag} {mg : Str → Option Value} {base : Heap}
/-- the same body, two ways to end -/
theorem spOf_fnN {N n : Nat} {b : FS} {xm : XM} {vs : List V} {H : Hp} {Q : VK} {E : XK} (h : spOf ⟨P, w, K⟩ xm n (fnN N b) vs H Q E) : spOf ⟨P, w, K⟩ xm n (fn true N b) vs H Q E ∨ spOf ⟨P, w, K⟩ xm n (fn false N b) vs H Q E := by
  obtain ⟨hl, B, L, ρ, S, ds, R, rv, g⟩ := h
  unfold fnN at g
  cases hb : b (ds ++ List.replicate (N - ds.length) .und) S with
  | rt d S' =>
    rw [hb] at g
    cases d with
    | loc i => exact .inl ⟨hl, B, L, ρ, S, ds, R, rv, by unfold fn; rw [hb]; exact g⟩
    | _ => exact .inr ⟨hl, B, L, ρ, S, ds, R, rv, by unfold fn; rw [hb]; exact g⟩
  | _ => rw [hb] at g; exact .inr ⟨hl, B, L, ρ, S, ds, R, rv, by unfold fn; rw [hb]; exact g⟩
/-- numbers alone -/
def allInt : List D → Bool
  | [] => true
  | .int _ :: r => allInt r
  | _ => false
theorem rvs_int {K : PySem.W.Frag} {B ρ B' ρ' : List Addr} {H : Hp} : ∀ {l : List D} {vs : List V}, allInt l = true → RVs K B ρ H l vs → RVs K B' ρ' H l vs
  | [], _, _, .nil => .nil
  | .int i :: l, _, h, .cons (.int _) t => .cons (.int i) (rvs_int (l := l) h t)
  | .und :: _, _, h, _ => by cases h
  | .non :: _, _, h, _ => by cases h
  | .bl _ :: _, _, h, _ => by cases h
  | .str _ :: _, _, h, _ => by cases h
  | .tup _ :: _, _, h, _ => by cases h
  | .lst _ :: _, _, h, _ => by cases h
  | .scr _ :: _, _, h, _ => by cases h
  | .loc _ :: _, _, h, _ => by cases h
  | .glob _ :: _, _, h, _ => by cases h
/-- run without the store; a new list of numbers comes into it -/
def pureN (F : Fn) : Fn := fun ds S => bif lowL 0 ds then (match F ds [] with
  | .ok (.loc 0) [.lst l] => bif allInt l then .ok (.loc S.length) (S ++ [.lst l]) else .bad
  | .ok d [] => .ok d S
  | .exc c [] => .exc c S
  | _ => .bad) else .bad
theorem RH.ext {G : Pg} {B L ρ : List Addr} {H H' : Hp} {S : Sto} (R : RH G B L ρ H S) (h : ∀ a u, H a = some u → H' a = some u) : RH G B L ρ H' S :=
  have q : Post L ρ H ρ H' := ⟨fun a u _ => h a u, ⟨[], by simp⟩, fun _ h => .inl h⟩
  ⟨R.len, R.nd, R.dj, fun b hb => let ⟨u, e⟩ := R.avo b hb; ⟨u, h b u e⟩, fun a ha => let ⟨o, u, e⟩ := R.lk a ha; ⟨o, u, h a _ e⟩, fun n a o h1 h2 => let ⟨u, e⟩ := R.there h1; (R.ob n a o h1 h2).mono q ((h a u e).trans e.symm)⟩
theorem spOf_pureN {G : Pg} {xm : XM} {n : Nat} {F : Fn} {vs : List V} {H : Hp} {Q : VK} {E : XK} (h : spOf G xm n (pureN F) vs H Q E) : spOf G xm n F vs H Q E := by
  have old : spOf G xm n (pureF F) vs H Q E → spOf G xm n F vs H Q E := spOf_pure
  obtain ⟨hl, B, L, ρ, S, ds, R, r, g⟩ := h
  unfold pureN at g
  cases hlow : lowL 0 ds with
  | false => rw [hlow] at g; exact g.elim
  | true =>
    rw [hlow] at g
    simp only [cond_true] at g
    cases hF : F ds [] with
    | bad => rw [hF] at g; exact g.elim
    | exc c S' =>
      rw [hF] at g
      cases S' with
      | nil => exact old ⟨hl, B, L, ρ, S, ds, R, r, by unfold pureF; rw [hlow, hF]; exact g⟩
      | cons => exact g.elim
    | ok d S' =>
      cases S' with
      | nil =>
        rw [hF] at g
        have g' : GO (G := G) (W := fun cls d _ H => E cls d H) (xm := xm) B L ρ H ([] : L2.St) (rD G B) (Out.ok d S) Q := by
          cases d with
          | loc k => cases k <;> exact g
          | _ => exact g
        exact old ⟨hl, B, L, ρ, S, ds, R, r, by unfold pureF; rw [hlow, hF]; exact g'⟩
      | cons ob S2 =>
        rw [hF] at g
        cases d with
        | loc k =>
          cases k with
          | succ k => cases ob <;> cases S2 <;> exact g.elim
          | zero =>
            cases ob with
            | lst l =>
              cases S2 with
              | cons => exact g.elim
              | nil =>
                simp only at g
                cases hi : allInt l with
                | false => rw [hi] at g; exact g.elim
                | true =>
                  rw [hi] at g
                  refine ⟨hl, B ++ ρ, L, [], [], ds, ⟨rfl, List.nodup_nil, (fun a z => nomatch z), fun b hb => (List.mem_append.mp hb).elim (R.avo b) R.someM, R.lk, fun n a o h => (by simp at h)⟩, ?_, ?_⟩
                  · have key : ∀ {d : D} {v : V}, RV G.K B ρ H d v → lowD 0 d = true → RV G.K (B ++ ρ) [] H d v := by
                      intro d v h
                      refine RV.rec (motive_1 := fun d v _ => lowD 0 d = true → RV G.K (B ++ ρ) [] H d v) (motive_2 := fun ds vs _ => lowL 0 ds = true → RVs G.K (B ++ ρ) [] H ds vs) (fun _ => .non) (fun b _ => .bl b) (fun i _ => .int i) (fun x _ => .str x) (fun h _ ih e => ?_) (fun h1 h2 h3 _ ih e => ?_) (fun h _ ih e => ?_) (fun h e => ?_) (fun h _ => .glob h) (fun _ => .nil) (fun _ _ ih1 ih2 e => ?_) h
                      · exact .tup ⟨fun z => (List.mem_append.mp z).elim h.1 h.2.1, (fun z => nomatch z), h.2.2⟩ (ih e)
                      · exact .lst (fun z => (List.mem_append.mp z).elim h1 h2) (fun z => nomatch z) h3 (ih e)
                      · exact .scr (h.imp (fun h => ⟨fun z => (List.mem_append.mp z).elim h.1 h.2.1, (fun z => nomatch z), h.2.2⟩) id) (ih e)
                      · exact absurd (Nat.le_of_ble_eq_true e) (Nat.not_succ_le_zero _)
                      · unfold lowL at e
                        rw [Bool.and_eq_true] at e
                        exact .cons (ih1 e.1) (ih2 e.2)
                    have keys : ∀ {ds : List D} {vs : List V}, RVs G.K B ρ H ds vs → lowL 0 ds = true → RVs G.K (B ++ ρ) [] H ds vs := by
                      intro ds vs h
                      induction ds generalizing vs with
                      | nil => intro _; cases h; exact .nil
                      | cons d ds ih =>
                        cases h with
                        | cons h t =>
                          intro e
                          unfold lowL at e
                          rw [Bool.and_eq_true] at e
                          exact .cons (key h e.1) (ih t e.2)
                    exact keys r hlow
                  · rw [hF]
                    intro v ρ' H' p R' r'
                    cases r' with
                    | @loc _ a h0 =>
                      obtain ⟨vs0, h1, h2⟩ := R'.ob 0 a _ h0 rfl
                      have ha : a ∉ B ++ ρ := R'.dj a (List.mem_of_getElem? h0)
                      have haB : a ∉ B := fun z => ha (List.mem_append_left _ z)
                      have haρ : a ∉ ρ := fun z => ha (List.mem_append_right _ z)
                      have hnone : H a = none := (p.new a (List.mem_of_getElem? h0)).elim (fun z => nomatch z) id
                      have back : Post L ρ H ρ H' := ⟨fun a u _ => p.ext a u (.inl fun z => nomatch z), ⟨[], by simp⟩, fun _ h => .inl h⟩
                      have backR : RH G (a :: B) L ρ H' S := (R.addB (u := .lst vs0) hnone).ext fun b u e => by
                        by_cases q : b = a
                        · subst q; rw [upd_same] at e; cases e; exact h1
                        · rw [upd_ne q] at e; exact p.ext b u (.inl fun z => nomatch z) e
                      refine g (.ref a) (ρ ++ [a]) H' ⟨back.ext, ⟨[a], rfl⟩, fun b hb => (List.mem_append.mp hb).elim .inl fun z => .inr (by rw [List.mem_singleton.mp z]; exact hnone)⟩ (backR.addL haB h1 (rvs_int hi h2)) (.loc ?_)
                      rw [← R.len, List.getElem?_append_right (Nat.le_refl _)]; simp
            | _ => cases S2 <;> exact g.elim
        | _ => cases ob <;> cases S2 <;> exact g.elim
theorem fn_pureN {k n : Nat} {f : Addr} {fd : FuncData} {ps : List Str} {F : Fn} {G : Pg} {xm : XM} (h : FnOk P w K mg base (L2.CX P w) k f fd ps (spOf G xm n F)) : FnOk P w K mg base (L2.CX P w) k f fd ps (spOf G xm n (pureN F)) :=
  h.imp fun vs H Q E => spOf_pureN
theorem fn_orN {N n k : Nat} {b : FS} {xm : XM} {f : Addr} {fd : FuncData} {ps : List Str} (h1 : FnOk P w K mg base (L2.CX P w) k f fd ps (spOf ⟨P, w, K⟩ xm n (fn true N b))) (h2 : FnOk P w K mg base (L2.CX P w) k f fd ps (spOf ⟨P, w, K⟩ xm n (fn false N b))) :
    FnOk P w K mg base (L2.CX P w) k f fd ps (spOf ⟨P, w, K⟩ xm n (fnN N b)) :=
  ⟨fun vs H Q E q => (spOf_fnN q).elim (h1.len vs H Q E) (h2.len vs H Q E), fun A outer s H args us vs Q E hr he hb hv hs => (spOf_fnN hs).elim (h1.run A outer s H args us vs Q E hr he hb hv) (h2.run A outer s H args us vs Q E hr he hb hv)⟩
theorem fn_okN {x qual : Str} {st : Stmt} {f : Addr} {fd : FuncData} {N ps : List Str} {k : Nat} {b : FS} (xm : XM) (F : Fun K x qual st f fd) (Sc : FnScope N ps (defScope st))
    (h : ∀ (cdv : Value) (A : Around) (outer : List PySem.Env) (s : Shared) (H : Hp) (E : XK) (W : WX), Room k (A.deeper (envOfC qual (defScope st) s.heap.objs.size f cdv)) →
      Takes (cxOf (L2.CX P w) P w K mg base N qual (defScope st) f cdv A outer s H E) W → SSs (cxOf (L2.CX P w) P w K mg base N qual (defScope st) f cdv A outer s H E) ⟨W, xm⟩ (defBody st) b) :
    FnOk P w K mg base (L2.CX P w) (k + 1) f fd ps (spOf ⟨P, w, K⟩ xm ps.length (fnN N.length b)) := fn_orN (fn_ok (m := true) xm F Sc h) (fn_ok (m := false) xm F Sc h)
end
end Sf
end

section
set_option Elab.async false
set_option maxRecDepth 100000
/-! the defs as terms -/
namespace Sf
open PySem L2
def b_is_count : FS := sRet (fAnd (fOpN oIsa (fCons (fVar 0) (fCons (fCon (.glob (.ty "int"))) (fNil)))) (fAnd (fNot (fOpN oIsa (fCons (fVar 0) (fCons (fCon (.glob (.ty "bool"))) (fNil))))) (fChain (fun i j => decide (i ≤ j)) (fun i j => decide (i ≤ j)) (fVar 1) (fVar 0) (fVar 2))))
def f_is_count : Fn := fn false 3 b_is_count
def b_round_winner : FS := sSeq (sAsgT [2, 3, 4] (fVar 0))
    (sSeq (sAsg 5 (fIf (tVal (fOp2 oGt (fOp2 oIx (fVar 1) (fCon (.int 0))) (fOp2 oIx (fVar 1) (fCon (.int 1))))) (fCon (.int 0)) (fCon (.int 1))))
    (sSeq (sIf (Sf.tOr (Sf.tAnd (tVal (fOp2 oGe (fOp2 oIx (fVar 1) (fVar 5)) (fVar 2))) (tVal (fOp2 oGe (fOp2 (oSub) (fOp2 oIx (fVar 1) (fVar 5)) (fOp2 oIx (fVar 1) (fOp2 (oSub) (fCon (.int 1)) (fVar 5)))) (fVar 3)))) (tVal (fOp2 oEq (fOp2 oIx (fVar 1) (fVar 5)) (fVar 4)))) (sRet (fVar 5)) (sSkip))
    (sRet (fCon .non))))
def f_round_winner : Fn := fn false 6 b_round_winner
def b_start_of : FS := sRet (fOp2 (oMul false) (fTup (fCons (fTup (fCons (fCon (.int 0)) (fCons (fCon (.int 0)) (fNil)))) (fNil))) (fOpN oLen (fCons (fVar 0) (fNil))))
def f_start_of : Fn := fn false 1 b_start_of
def b_plus : FS := sRet (fIf (tVal (fOp2 oEq (fVar 1) (fCon (.int 0)))) (fTup (fCons (fOp2 (oAdd false) (fOp2 oIx (fVar 0) (fCon (.int 0))) (fCon (.int 1))) (fCons (fOp2 oIx (fVar 0) (fCon (.int 1))) (fNil)))) (fTup (fCons (fOp2 oIx (fVar 0) (fCon (.int 0))) (fCons (fOp2 (oAdd false) (fOp2 oIx (fVar 0) (fCon (.int 1))) (fCon (.int 1))) (fNil)))))
def f_plus : Fn := fn false 2 b_plus
def b_settled : FS := sSeq (sAsg 2 (fLst true (fNil)))
    (sSeq (sFor (iOf kZip (fCons (fVar 0) (fCons (fVar 1) (fNil)))) (unTup [3, 4]) (sSeq (sAsg 5 (fIf (tVal (fOp2 oIs (fOp2 oIx (fVar 3) (fCon (.int 2))) (fCon .non))) (fOp2 (oAdd false) (fOp2 (oSub) (fOpN oMin (fCons (fVar 4) (fNil))) (fOp2 oIx (fVar 3) (fCon (.int 0)))) (fCon (.int 1))) (fCon (.int 0))))
    (sExpr (fMethL mAppend (fVar 2) (fCons (fIf (tVal (fOp2 oGt (fVar 5) (fCon (.int 0)))) (fTup (fCons (fOp2 (oSub) (fOp2 oIx (fVar 4) (fCon (.int 0))) (fVar 5)) (fCons (fOp2 (oSub) (fOp2 oIx (fVar 4) (fCon (.int 1))) (fVar 5)) (fNil)))) (fVar 4)) (fNil))))))
    (sRet (fOpN (oTuple) (fCons (fVar 2) (fNil)))))
def f_settled : Fn := fn false 6 b_settled
def b_Board___len__ : FS := sRet (fOpN oLen (fCons (fOp1 (getF "points") (fVar 0)) (fNil)))
def f_Board___len__ : Fn := fn false 1 b_Board___len__
def b_row_to : FS := sSeq (sAsg 2 (fLst true (fNil)))
    (sSeq (whileL (tVal (fOp2 oIsN (fOp2 oGetX (fVar 0) (fVar 1)) (fCon .non))) (sSeq (sAsgT [1, 3] (fOp2 oGetX (fVar 0) (fVar 1)))
    (sExpr (fMethL mAppend (fVar 2) (fCons (fVar 3) (fNil))))) 20000000)
    (sRet (fOp1 (oRev false) (fVar 2))))
def f_row_to : Fn := fn false 4 b_row_to
def b__law_draw : FS := sSeq (sIf (tVal (fOp2 oGt (fOp2 oIx (fVar 1) (fCon (.int 1))) (fCon (.int 0)))) (sSeq (sAsg 3 (fOp2 (oMod) (fOp2 oIx (fVar 1) (fCon (.int 1))) (fVar 2)))
    (sSeq (sAsgIx (fOp2 (oFdiv) (fOp2 oIx (fVar 1) (fCon (.int 1))) (fVar 2)) (fVar 1) (fCon (.int 1)))
    (sRet (fVar 3)))) (sSkip))
    (sSeq (sAsg 4 (fOp2 oIx (fVar 1) (fCon (.int 0))))
    (sSeq (sAugIx oAddI (fVar 1) (fCon (.int 0)) (fCon (.int 1)))
    (sSeq (sIf (tVal (fOp2 oEq (fVar 0) (fLst false (fNil)))) (sRet (fOp2 (oMod) (fVar 4) (fVar 2))) (sSkip))
    (sSeq (sIf (Sf.tAnd (tVal (fOp2 oLt (fVar 4) (fOpN oLen (fCons (fVar 0) (fNil))))) (tVal (fOp2 oGe (fOp2 oIx (fVar 0) (fVar 4)) (fOp2 (oPow) (fCon (.int 10)) (fCon (.int 18)))))) (sSeq (sAsgIx (fOp2 (oMod) (fOp2 (oFdiv) (fOp2 oIx (fVar 0) (fVar 4)) (fVar 2)) (fOp2 (oMul false) (fOp2 (oPow) (fCon (.int 10)) (fCon (.int 60))) (fOp2 (oPow) (fCon (.int 10)) (fCon (.int 60))))) (fVar 1) (fCon (.int 1)))
    (sRet (fOp2 (oMod) (fOp2 oIx (fVar 0) (fVar 4)) (fVar 2)))) (sSkip))
    (sSeq (sAsg 5 (fOp2 (oMod) (fOp2 (oAdd false) (fOp2 (oAdd false) (fOp2 (oMul false) (fOp2 oIx (fVar 0) (fOp2 (oMod) (fVar 4) (fOpN oLen (fCons (fVar 0) (fNil))))) (fCon (.int 1103515245))) (fOp2 (oMul false) (fCon (.int 7919)) (fVar 4))) (fCon (.int 12345))) (fCon (.int 2147483647))))
    (sRet (fOp2 (oMod) (fOp2 (oMod) (fOp2 (oMod) (fOp2 (oPow) (fVar 5) (fCon (.int 5))) (fCon (.int 2147483647))) (fCon (.int 999983))) (fVar 2))))))))
def f__law_draw : Fn := fn false 6 b__law_draw
def b__law_won : FS := sSeq (sAsgT [3, 4, 5] (fVar 0))
    (sRet (fOr (fAnd (fOp2 oGe (fVar 1) (fVar 3)) (fOp2 oGe (fOp2 (oSub) (fVar 1) (fVar 2)) (fVar 4))) (fAnd (fOp2 oIsN (fVar 5) (fCon .non)) (fOp2 oEq (fVar 1) (fVar 5)))))
def f__law_won : Fn := fn false 6 b__law_won
def b_is_level : FS := sSeq (sIf (Sf.tOr (tNot (tVal (fOpN oIsa (fCons (fVar 0) (fCons (fCon (.glob (.ty "tuple"))) (fNil)))))) (Sf.tOr (tVal (fOp2 oNe (fOpN oLen (fCons (fVar 0) (fNil))) (fCon (.int 3)))) (tNot (tVal (fCall (pureF f_is_count) (fCons (fOp2 oIx (fVar 0) (fCon (.int 0))) (fCons (fCon (.int 1)) (fCons (fCon (.int 5)) (fNil))))))))) (sRet (fCon (.bl false))) (sSkip))
    (sRet (fAnd (fCall (pureF f_is_count) (fCons (fOp2 oIx (fVar 0) (fCon (.int 1))) (fCons (fCon (.int 1)) (fCons (fCon (.int 3)) (fNil))))) (fOr (fOp2 oIs (fOp2 oIx (fVar 0) (fCon (.int 2))) (fCon .non)) (fCall (pureF f_is_count) (fCons (fOp2 oIx (fVar 0) (fCon (.int 2))) (fCons (fOp2 oIx (fVar 0) (fCon (.int 0))) (fCons (fCon (.int 9)) (fNil))))))))
def f_is_level : Fn := fn false 1 b_is_level
def b_is_side : FS := sRet (fCall (pureF f_is_count) (fCons (fVar 0) (fCons (fCon (.int 0)) (fCons (fCon (.int 1)) (fNil)))))
def f_is_side : Fn := fn false 1 b_is_side
def b_after : FS := sSeq (sAsg 3 (fOpN (oList true) (fCons (fVar 1) (fNil))))
    (sSeq (sFor (iOf kEnum (fCons (fVar 0) (fNil))) (unTup [4, 5]) (sSeq (sAsgIx (fCall (pureF f_plus) (fCons (fOp2 oIx (fVar 3) (fVar 4)) (fCons (fVar 2) (fNil)))) (fVar 3) (fVar 4))
    (sSeq (sAsg 6 (fCall (pureF f_round_winner) (fCons (fVar 5) (fCons (fOp2 oIx (fVar 3) (fVar 4)) (fNil)))))
    (sSeq (sIf (tVal (fOp2 oIs (fVar 6) (fCon .non))) (sBreak) (sSkip))
    (sSeq (sIf (tVal (fOp2 oEq (fOp2 (oAdd false) (fVar 4) (fCon (.int 1))) (fOpN oLen (fCons (fVar 0) (fNil))))) (sRet (fTup (fCons (fOpN (oTuple) (fCons (fVar 3) (fNil))) (fCons (fVar 6) (fNil))))) (sSkip))
    (sAsgIx (fTup (fCons (fCon (.int 0)) (fCons (fCon (.int 0)) (fNil)))) (fVar 3) (fVar 4)))))))
    (sRet (fTup (fCons (fOpN (oTuple) (fCons (fVar 3) (fNil))) (fCons (fCon .non) (fNil))))))
def f_after : Fn := fn false 7 b_after
def b_rounds : FS := sSeq (sAsg 1 (fIf (tVal (fOp2 oIs (fOp2 oIx (fVar 0) (fCon (.int 2))) (fCon .non))) (fOp2 (oAdd false) (fOp2 oIx (fVar 0) (fCon (.int 0))) (fOp2 oIx (fVar 0) (fCon (.int 1)))) (fOp2 oIx (fVar 0) (fCon (.int 2)))))
    (sSeq (sPar2 2 3 (fCons (fDct1 (fTup (fCons (fCon (.int 0)) (fCons (fCon (.int 0)) (fNil)))) (fLst false (fNil))) (fCons (fLst true (fCons (fTup (fCons (fCon (.int 0)) (fCons (fCon (.int 0)) (fNil)))) (fNil))) (fNil))))
    (sSeq (sAsg 4 (fLst true (fNil)))
    (sSeq (sFor (iOf kRng1 (fCons (fOp2 (oMul false) (fOp2 (oAdd false) (fVar 1) (fCon (.int 2))) (fOp2 (oAdd false) (fVar 1) (fCon (.int 2)))) (fNil))) (tgName 5) (sSeq (sIf (tVal (fOp2 oEq (fVar 5) (fOpN oLen (fCons (fVar 3) (fNil))))) (sBreak) (sSkip))
    (sSeq (sAsg 6 (fOp2 oIx (fVar 3) (fVar 5)))
    (sFor (iSq (fTup (fCons (fCon (.int 0)) (fCons (fCon (.int 1)) (fNil))))) (tgName 7) (sSeq (sAsg 8 (fCall (pureF f_plus) (fCons (fVar 6) (fCons (fVar 7) (fNil)))))
    (sIf (Sf.tAnd (tVal (fOp2 oLe (fOpN oMax (fCons (fVar 8) (fNil))) (fVar 1))) (tVal (fOp2 oNinX (fVar 8) (fVar 2)))) (sSeq (sAsgX (fOp2 (oAdd false) (fOp2 oGetX (fVar 2) (fVar 6)) (fLst false (fCons (fVar 7) (fNil)))) (fVar 2) (fVar 8))
    (sIf (tVal (fOp2 oIs (fCall (pureF f_round_winner) (fCons (fVar 0) (fCons (fVar 8) (fNil)))) (fCon .non))) (sExpr (fMethL mAppend (fVar 3) (fCons (fVar 8) (fNil)))) (sExpr (fMethL mAppend (fVar 4) (fCons (fOp2 oGetX (fVar 2) (fVar 8)) (fNil)))))) (sSkip)))))))
    (sRet (fVar 4)))))
def f_rounds : Fn := fn false 9 b_rounds
def b__law_pick : FS := sRet (fOp2 oIx (fVar 2) (fCall f__law_draw (fCons (fVar 0) (fCons (fVar 1) (fCons (fOpN oLen (fCons (fVar 2) (fNil))) (fNil))))))
def f__law_pick : Fn := fn false 3 b__law_pick
def b__law_after : FS := sSeq (sAsg 3 (fComp true (iSq (fVar 1)) (tgName 5) (tYesF) (fOpN (oList true) (fCons (fVar 5) (fNil))) [5]))
    (sSeq (sFor (iOf kRng1 (fCons (fOpN oLen (fCons (fVar 0) (fNil))) (fNil))) (tgName 4) (sSeq (sAugIx oAddI (fOp2 oIx (fVar 3) (fVar 4)) (fVar 2) (fCon (.int 1)))
    (sSeq (sIf (tNot (tVal (fCall (pureF f__law_won) (fCons (fOp2 oIx (fVar 0) (fVar 4)) (fCons (fOp2 oIx (fOp2 oIx (fVar 3) (fVar 4)) (fVar 2)) (fCons (fOp2 oIx (fOp2 oIx (fVar 3) (fVar 4)) (fOp2 (oSub) (fCon (.int 1)) (fVar 2))) (fNil))))))) (sRet (fTup (fCons (fVar 3) (fCons (fCon .non) (fNil))))) (sSkip))
    (sIf (tVal (fOp2 oLt (fOp2 (oAdd false) (fVar 4) (fCon (.int 1))) (fOpN oLen (fCons (fVar 0) (fNil))))) (sAsgIx (fLst true (fCons (fCon (.int 0)) (fCons (fCon (.int 0)) (fNil)))) (fVar 3) (fVar 4)) (sSkip)))))
    (sRet (fTup (fCons (fVar 3) (fCons (fVar 2) (fNil))))))
def f__law_after : Fn := fn false 6 b__law_after
def b__law_row : FS := sSeq (sAsg 3 (fComp true (iOf kRng1 (fCons (fCall f__law_draw (fCons (fVar 0) (fCons (fVar 1) (fCons (fVar 2) (fNil))))) (fNil))) (tgName 5) (tYesF) (fCall f__law_draw (fCons (fVar 0) (fCons (fVar 1) (fCons (fCon (.int 2)) (fNil))))) [5]))
    (sSeq (sIf (tVal (fOp2 oEq (fCall f__law_draw (fCons (fVar 0) (fCons (fVar 1) (fCons (fCon (.int 3)) (fNil))))) (fCon (.int 0)))) (sSeq (sAsg 4 (fCall f__law_draw (fCons (fVar 0) (fCons (fVar 1) (fCons (fCon (.int 2)) (fNil))))))
    (sAsg 3 (fCompM true (fVar 3) (tgName 6) (fIf (tVal (fOp2 oGt (fCall f__law_draw (fCons (fVar 0) (fCons (fVar 1) (fCons (fCon (.int 4)) (fNil))))) (fCon (.int 0)))) (fVar 4) (fVar 6)) [6]))) (sSkip))
    (sRet (fVar 3)))
def f__law_row : Fn := fnN 7 b__law_row
def b_is_form : FS := sRet (fAnd (fOpN oIsa (fCons (fVar 0) (fCons (fCon (.glob (.ty "tuple"))) (fNil)))) (fAnd (fChain (fun i j => decide (i ≤ j)) (fun i j => decide (i ≤ j)) (fCon (.int 1)) (fOpN oLen (fCons (fVar 0) (fNil))) (fCon (.int 3))) (fOpN oAll (fCons (fComp false (iSq (fVar 0)) (tgName 1) (tYesF) (fCall (pureF f_is_level) (fCons (fVar 1) (fNil))) [1]) (fNil)))))
def f_is_form : Fn := fn false 2 b_is_form
def b_need_side : FS := sIf (tNot (tVal (fCall (pureF f_is_side) (fCons (fVar 0) (fNil))))) (sBad) (sSkip)
def f_need_side : Fn := fn false 1 b_need_side
def b_need_row : FS := sIf (Sf.tOr (tNot (tVal (fOpN oIsa (fCons (fVar 0) (fCons (fTup (fCons (fCon (.glob (.ty "list"))) (fCons (fCon (.glob (.ty "tuple"))) (fNil)))) (fNil)))))) (Sf.tOr (tVal (fOp2 oGt (fOpN oLen (fCons (fVar 0) (fNil))) (fCon (.int 200)))) (tNot (tVal (fOpN oAll (fCons (fCompM false (fVar 0) (tgName 1) (fCall (pureF f_is_side) (fCons (fVar 1) (fNil))) [1]) (fNil))))))) (sBad) (sSkip)
def f_need_row : Fn := fn false 2 b_need_row
def b_played : FS := sSeq (sPar3 2 3 4 (fCons (fCall (pureF f_start_of) (fCons (fVar 0) (fNil))) (fCons (fCon .non) (fCons (fCon (.int 0)) (fNil)))))
    (sSeq (sForD (fVar 1) (tgName 5) (sIf (tVal (fOp2 oIs (fVar 3) (fCon .non))) (sSeq (sAsgT [2, 3] (fCall (pureF f_after) (fCons (fVar 0) (fCons (fVar 2) (fCons (fVar 5) (fNil))))))
    (sAug 4 oAddI (fCon (.int 1)))) (sSkip)))
    (sRet (fTup (fCons (fVar 2) (fCons (fVar 3) (fCons (fVar 4) (fNil)))))))
def f_played : Fn := fn false 6 b_played
def b_needs_at : FS := sSeq (sIf (tVal (fOp2 oIsN (fVar 2) (fCon .non))) (sRet (fIf (tVal (fOp2 oEq (fVar 2) (fVar 3))) (fCon (.int 0)) (fCon .non))) (sSkip))
    (sSeq (sAsg 4 (fCon (.int 0)))
    (sSeq (whileL (tVal (fOp2 oIs (fVar 2) (fCon .non))) (sSeq (sAsgT [1, 2] (fCall (pureF f_after) (fCons (fVar 0) (fCons (fVar 1) (fCons (fVar 3) (fNil))))))
    (sAug 4 oAddI (fCon (.int 1)))) 100000)
    (sRet (fVar 4))))
def f_needs_at : Fn := fn false 5 b_needs_at
def b_best_row : FS := sSeq (sAsg 3 (fCon .non))
    (sSeq (sFor (iSq (fCall (pureF f_rounds) (fCons (fVar 0) (fNil)))) (tgName 4) (sIf (tVal (fOp2 oEq (fCall (pureF f_round_winner) (fCons (fVar 0) (fCons (fTup (fCons (fMethL mCount (fVar 4) (fCons (fCon (.int 0)) (fNil))) (fCons (fMethL mCount (fVar 4) (fCons (fCon (.int 1)) (fNil))) (fNil)))) (fNil)))) (fIf (tVal (fVar 1)) (fCon (.int 0)) (fCon (.int 1))))) (sSeq (sAsg 5 (fOpN oSum (fCons (fComp false (iSq (fVar 4)) (tgName 7) (tYesF) (fOp2 oIx (fOp2 oIx (fVar 2) (fVar 7)) (fCon (.int 0))) [7]) (fNil))))
    (sSeq (sAsg 6 (fOpN oSum (fCons (fComp false (iSq (fVar 4)) (tgName 7) (tYesF) (fOp2 oIx (fOp2 oIx (fVar 2) (fVar 7)) (fCon (.int 1))) [7]) (fNil))))
    (sIf (Sf.tOr (tVal (fOp2 oIs (fVar 3) (fCon .non))) (tVal (fOp2 oLt (fTup (fCons (fOp1 oNeg (fVar 5)) (fCons (fVar 6) (fNil)))) (fCut false (fVar 3) (fNoPart) (fPart (fCon (.int 2))))))) (sAsg 3 (fTup (fCons (fOp1 oNeg (fVar 5)) (fCons (fVar 6) (fCons (fVar 4) (fNil)))))) (sSkip)))) (sSkip)))
    (sRet (fTup (fCons (fOp1 oNeg (fOp2 oIx (fVar 3) (fCon (.int 0)))) (fCons (fOp2 oIx (fVar 3) (fCon (.int 1))) (fCons (fOp2 oIx (fVar 3) (fCon (.int 2))) (fNil)))))))
def f_best_row : Fn := fn false 8 b_best_row
def b__law_level : FS := sSeq (sAsg 3 (fOp2 (oAdd false) (fCon (.int 1)) (fCall f__law_draw (fCons (fVar 0) (fCons (fVar 1) (fCons (fVar 2) (fNil)))))))
    (sSeq (sAsg 4 (fCall f__law_pick (fCons (fVar 0) (fCons (fVar 1) (fCons (fLst false (fCons (fCon .non) (fCons (fCon .non) (fCons (fVar 3) (fCons (fOp2 (oAdd false) (fVar 3) (fCon (.int 1))) (fCons (fOp2 (oAdd false) (fVar 3) (fCon (.int 3))) (fNil))))))) (fNil))))))
    (sRet (fTup (fCons (fVar 3) (fCons (fOp2 (oAdd false) (fCon (.int 1)) (fCall f__law_draw (fCons (fVar 0) (fCons (fVar 1) (fCons (fCon (.int 3)) (fNil)))))) (fCons (fVar 4) (fNil)))))))
def f__law_level : Fn := fn false 5 b__law_level
def b__law_play : FS := sSeq (sPar3 2 3 4 (fCons (fComp false (iSq (fVar 0)) (tgName 6) (tYesF) (fLst false (fCons (fCon (.int 0)) (fCons (fCon (.int 0)) (fNil)))) [6]) (fCons (fCon .non) (fCons (fCon (.int 0)) (fNil)))))
    (sSeq (sForD (fVar 1) (tgName 5) (sIf (tVal (fOp2 oIs (fVar 3) (fCon .non))) (sSeq (sAsgT [2, 3] (fCall (pureF f__law_after) (fCons (fVar 0) (fCons (fVar 2) (fCons (fVar 5) (fNil))))))
    (sAsg 4 (fOp2 (oAdd false) (fVar 4) (fCon (.int 1))))) (sSkip)))
    (sRet (fTup (fCons (fVar 3) (fCons (fVar 4) (fCons (fOpN (oTuple) (fCons (fComp false (iSq (fVar 2)) (tgName 7) (tYesF) (fOpN (oTuple) (fCons (fVar 7) (fNil))) [7]) (fNil))) (fNil)))))))
def f__law_play : Fn := fn false 8 b__law_play
def b_need_form : FS := sIf (tNot (tVal (fCall (pureF f_is_form) (fCons (fVar 0) (fNil))))) (sBad) (sSkip)
def f_need_form : Fn := fn false 1 b_need_form
def b_Board_score : FS := sRet (fOp2 oIx (fCall f_played (fCons (fOp1 (getF "form") (fVar 0)) (fCons (fOp1 (getF "points") (fVar 0)) (fNil)))) (fCon (.int 0)))
def f_Board_score : Fn := fn false 1 b_Board_score
def b_Board_winner : FS := sRet (fOp2 oIx (fCall f_played (fCons (fOp1 (getF "form") (fVar 0)) (fCons (fOp1 (getF "points") (fVar 0)) (fNil)))) (fCon (.int 1)))
def f_Board_winner : Fn := fn false 1 b_Board_winner
def b_surpluses : FS := sSeq (sPar2 1 2 (fCons (fTup (fCons (fTup (fCons (fOp1 oNeg (fCon (.int 1))) (fCons (fCon (.int 1)) (fNil)))) (fCons (fTup (fCons (fCon (.int 1)) (fCons (fCon (.int 1)) (fNil)))) (fNil)))) (fCons (fLst true (fNil)) (fNil))))
    (sSeq (sFor (iSq (fVar 0)) (tgName 3) (sSeq (sIf (Sf.tAnd (tVal (fOp2 oIs (fOp2 oIx (fVar 3) (fCon (.int 2))) (fCon .non))) (Sf.tAnd (tVal (fOp2 oGt (fOp2 oIx (fVar 3) (fCon (.int 1))) (fCon (.int 1)))) (tVal (fOp2 oGt (fOp2 (oAdd false) (fOp2 oIx (fOp2 oIx (fVar 1) (fCon (.int 0))) (fCon (.int 0))) (fOp2 oIx (fOp2 oIx (fVar 1) (fCon (.int 1))) (fCon (.int 0)))) (fCon (.int 0)))))) (sRet (fCon .non)) (sSkip))
    (sSeq (sPar2 4 5 (fCons (fCall (pureF f_best_row) (fCons (fVar 3) (fCons (fCon (.bl true)) (fCons (fVar 1) (fNil))))) (fCons (fCall (pureF f_best_row) (fCons (fVar 3) (fCons (fCon (.bl false)) (fCons (fVar 1) (fNil))))) (fNil))))
    (sSeq (sExpr (fMethL mAppend (fVar 2) (fCons (fTup (fCons (fVar 4) (fCons (fVar 5) (fNil)))) (fNil))))
    (sAsg 1 (fTup (fCons (fCut false (fVar 4) (fNoPart) (fPart (fCon (.int 2)))) (fCons (fCut false (fVar 5) (fNoPart) (fPart (fCon (.int 2)))) (fNil)))))))))
    (sRet (fVar 2)))
def f_surpluses : Fn := fn false 6 b_surpluses
def b_points_of (r_points_of : Fn) : FS := sSeq (sIf (tVal (fOp2 oLt (fVar 1) (fCon (.int 0)))) (sRet (fLst false (fCons (fVar 2) (fNil)))) (sSkip))
    (sSeq (sAsg 3 (fLst true (fNil)))
    (sSeq (sFor (iSq (fOp2 oIx (fOp2 oIx (fOp2 oIx (fVar 0) (fVar 1)) (fVar 2)) (fCon (.int 2)))) (tgName 4) (sExpr (fMethL mExtend (fVar 3) (fCons (fCall (pureF r_points_of) (fCons (fVar 0) (fCons (fOp2 (oSub) (fVar 1) (fCon (.int 1))) (fCons (fVar 4) (fNil))))) (fNil)))))
    (sRet (fVar 3))))
def f_points_of : Nat → Fn
  | 0 => fun _ _ => .bad
  | k + 1 => fn false 5 (b_points_of (f_points_of k))
def f_points_ofN : Fn := fnN 5 (b_points_of (f_points_of 3))
def b__law_form : FS := sSeq (sAsg 2 (fCall f__law_pick (fCons (fVar 0) (fCons (fVar 1) (fCons (fLst false (fCons (fCon (.int 1)) (fCons (fCon (.int 1)) (fCons (fCon (.int 2)) (fCons (fCon (.int 2)) (fCons (fCon (.int 3)) (fNil))))))) (fNil))))))
    (sRet (fOpN (oTuple) (fCons (fComp false (iOf kRng1 (fCons (fVar 2) (fNil))) (tgName 3) (tYesF) (fCall f__law_level (fCons (fVar 0) (fCons (fVar 1) (fCons (fIf (tVal (fOp2 oLt (fVar 2) (fCon (.int 3)))) (fOp2 (oSub) (fCon (.int 5)) (fVar 2)) (fCon (.int 2))) (fNil))))) [3]) (fNil))))
def f__law_form : Fn := fn false 4 b__law_form
def b_need_match : FS := sSeq (sExpr (fCall (pureF f_need_form) (fCons (fVar 0) (fNil))))
    (sExpr (fCall f_need_row (fCons (fVar 1) (fNil))))
def f_need_match : Fn := fn false 2 b_need_match
def b_Board___init__ : FS := sSeq (sExpr (fCall (pureF f_need_form) (fCons (fVar 1) (fNil))))
    (sSeq (sPutF "form" (fVar 1) (fVar 0))
    (sPutF "points" (fLst true (fNil)) (fVar 0)))
def f_Board___init__ : Fn := fnK 2 b_Board___init__
def b_Board_point : FS := sSeq (sExpr (fCall (pureF f_need_side) (fCons (fVar 1) (fNil))))
    (sSeq (sIf (tVal (fOp2 oIsN (fObjM "winner" f_Board_winner (fVar 0) fNil) (fCon .non))) (sBad) (sSkip))
    (sSeq (sExpr (fMethL mAppend (fOp1 (getF "points") (fVar 0)) (fCons (fVar 1) (fNil))))
    (sRet (fObjM "winner" f_Board_winner (fVar 0) fNil))))
def f_Board_point : Fn := fn false 2 b_Board_point
def b_Board_undo : FS := sSeq (sIf (tVal (fOp2 oEq (fOp1 (getF "points") (fVar 0)) (fLst false (fNil)))) (sBad) (sSkip))
    (sSeq (sExpr (fMethL mPop (fOp1 (getF "points") (fVar 0)) fNil))
    (sRet (fObjM "score" f_Board_score (fVar 0) fNil)))
def f_Board_undo : Fn := fn false 1 b_Board_undo
def b_surplus_row : FS := sSeq (sExpr (fCall (pureF f_need_form) (fCons (fVar 0) (fNil))))
    (sSeq (sAsg 1 (fCall (pureF f_surpluses) (fCons (fVar 0) (fNil))))
    (sRet (fIf (tVal (fOp2 oIs (fVar 1) (fCon .non))) (fCon .non) (fCall (pureN f_points_ofN) (fCons (fVar 1) (fCons (fOp2 (oSub) (fOpN oLen (fCons (fVar 0) (fNil))) (fCon (.int 1))) (fCons (fCon (.int 0)) (fNil))))))))
def f_surplus_row : Fn := fnN 2 b_surplus_row
def b_parting : FS := sSeq (sExpr (fCall (pureF f_need_form) (fCons (fVar 0) (fNil))))
    (sSeq (sExpr (fCall (pureF f_need_form) (fCons (fVar 1) (fNil))))
    (sSeq (sAsg 2 (fTup (fCons (fCall (pureF f_start_of) (fCons (fVar 0) (fNil))) (fCons (fCall (pureF f_start_of) (fCons (fVar 1) (fNil))) (fNil)))))
    (sSeq (sPar2 3 4 (fCons (fDct1 (fVar 2) (fCon .non)) (fCons (fLst false (fCons (fVar 2) (fNil))) (fNil))))
    (sSeq (whileL (tVal (fOp2 oNe (fVar 4) (fLst false (fNil)))) (sSeq (sAsg 5 (fLst true (fNil)))
    (sSeq (sForD (fVar 4) (tgName 6) (sFor (iSq (fTup (fCons (fCon (.int 0)) (fCons (fCon (.int 1)) (fNil))))) (tgName 7) (sSeq (sPar2 8 9 (fCons (fCall (pureF f_after) (fCons (fVar 0) (fCons (fOp2 oIx (fVar 6) (fCon (.int 0))) (fCons (fVar 7) (fNil))))) (fCons (fCall (pureF f_after) (fCons (fVar 1) (fCons (fOp2 oIx (fVar 6) (fCon (.int 1))) (fCons (fVar 7) (fNil))))) (fNil))))
    (sSeq (sIf (tVal (fOp2 oNe (fOp2 oIx (fVar 8) (fCon (.int 1))) (fOp2 oIx (fVar 9) (fCon (.int 1))))) (sRet (fOp2 (oAdd true) (fCall f_row_to (fCons (fVar 3) (fCons (fVar 6) (fNil)))) (fLst false (fCons (fVar 7) (fNil))))) (sSkip))
    (sSeq (sAsg 10 (fTup (fCons (fCall (pureF f_settled) (fCons (fVar 0) (fCons (fOp2 oIx (fVar 8) (fCon (.int 0))) (fNil)))) (fCons (fCall (pureF f_settled) (fCons (fVar 1) (fCons (fOp2 oIx (fVar 9) (fCon (.int 0))) (fNil)))) (fNil)))))
    (sIf (Sf.tAnd (tVal (fOp2 oIs (fOp2 oIx (fVar 8) (fCon (.int 1))) (fCon .non))) (tVal (fOp2 oNinX (fVar 10) (fVar 3)))) (sSeq (sAsgX (fTup (fCons (fVar 6) (fCons (fVar 7) (fNil)))) (fVar 3) (fVar 10))
    (sExpr (fMethL mAppend (fVar 5) (fCons (fVar 10) (fNil))))) (sSkip)))))))
    (sAsg 4 (fVar 5)))) 20000000)
    (sRet (fCon .non))))))
def f_parting : Fn := fnN 11 b_parting
def b_winner : FS := sSeq (sExpr (fCall (pureF f_need_match) (fCons (fVar 0) (fCons (fVar 1) (fNil)))))
    (sRet (fOp2 oIx (fCall (pureF f_played) (fCons (fVar 0) (fCons (fVar 1) (fNil)))) (fCon (.int 1))))
def f_winner : Fn := fn false 2 b_winner
def b_score : FS := sSeq (sExpr (fCall f_need_match (fCons (fVar 0) (fCons (fVar 1) (fNil)))))
    (sRet (fOp2 oIx (fCall f_played (fCons (fVar 0) (fCons (fVar 1) (fNil)))) (fCon (.int 0))))
def f_score : Fn := fn false 2 b_score
def b_match_points : FS := sSeq (sExpr (fCall f_need_match (fCons (fVar 0) (fCons (fVar 1) (fNil)))))
    (sSeq (sAsgT [2, 3, 4] (fCall f_played (fCons (fVar 0) (fCons (fVar 1) (fNil)))))
    (sRet (fComp true (iSq (fTup (fCons (fCon (.int 0)) (fCons (fCon (.int 1)) (fNil))))) (tgName 5) (tVal (fOp2 oEq (fCall (pureF f_needs_at) (fCons (fVar 0) (fCons (fVar 2) (fCons (fVar 3) (fCons (fVar 5) (fNil)))))) (fCon (.int 1)))) (fVar 5) [5])))
def f_match_points : Fn := fnN 6 b_match_points
def b_Board_copy : FS := sSeq (sAsg 1 (fMake f_Board___init__ (fCons (fOp1 (getF "form") (fVar 0)) (fNil))))
    (sSeq (sPutF "points" (fOpN (oList true) (fCons (fOp1 (getF "points") (fVar 0)) (fNil))) (fVar 1))
    (sRet (fVar 1)))
def f_Board_copy : Fn := fnK 2 b_Board_copy
def b__law_answers : FS := sSeq (sAsg 2 (fOp2 (oAdd false) (fCut false (fVar 0) (fNoPart) (fPart (fOp1 oNeg (fCon (.int 1))))) (fTup (fCons (fTup (fCons (fOp2 oIx (fOp2 oIx (fVar 0) (fOp1 oNeg (fCon (.int 1)))) (fCon (.int 0))) (fCons (fCon (.int 1)) (fCons (fCon .non) (fNil))))) (fNil)))))
    (sRet (fLst false (fCons (fCall f_match_points (fCons (fVar 0) (fCons (fVar 1) (fNil)))) (fCons (fOrL (fCall (pureN f_surplus_row) (fCons (fVar 0) (fNil))) (fLst true (fNil))) (fCons (fOrL (fCall (pureN f_parting) (fCons (fVar 0) (fCons (fVar 2) (fNil)))) (fLst true (fNil))) (fCons (fOpN (oList true) (fCons (fCall f_score (fCons (fVar 0) (fCons (fVar 1) (fNil)))) (fNil))) (fNil)))))))
def f__law_answers : Fn := fn false 3 b__law_answers
def f__law_answersK : Fn := fnK 3 b__law_answers
def b_law : FS := sSeq (sAsg 1 (fLst true (fCons (fCon (.int 0)) (fCons (fCon (.int 0)) (fNil)))))
    (sSeq (sAsg 2 (fCall f__law_form (fCons (fVar 0) (fCons (fVar 1) (fNil)))))
    (sSeq (sAsg 3 (fCall f__law_row (fCons (fVar 0) (fCons (fVar 1) (fCons (fCon (.int 20)) (fNil))))))
    (sSeq (sPar2 4 5 (fCons (fOpN (oList false) (fCons (fVar 3) (fNil))) (fCons (fCall f__law_answersK (fCons (fVar 2) (fCons (fVar 3) (fNil)))) (fNil))))
    (sSeq (sAsg 7 (fComp false (iSq (fVar 5)) (tgName 6) (tYesF) (fOpN (oList false) (fCons (fVar 6) (fNil))) [6]))
    (sSeq (sFor (iSq (fVar 5)) (tgName 6) (sExpr (fMethL mInsert (fVar 6) (fCons (fCon (.int 0)) (fCons (fCon .non) (fNil))))))
    (sSeq (sIf (Sf.tOr (tVal (fOp2 oNe (fCall f__law_answers (fCons (fVar 2) (fCons (fVar 3) (fNil)))) (fVar 7))) (tVal (fOp2 oNe (fVar 3) (fVar 4)))) (sRet (fCon (.bl false))) (sSkip))
    (sSeq (sAsg 8 (fMake f_Board___init__ (fCons (fVar 2) (fNil))))
    (sSeq (sFor (iSq (fCut false (fVar 3) (fNoPart) (fPart (fOp2 oIx (fCall f__law_play (fCons (fVar 2) (fCons (fVar 3) (fNil)))) (fCon (.int 1)))))) (tgName 9) (sExpr (fObjM "point" f_Board_point (fVar 8) (fCons (fVar 9) (fNil)))))
    (sSeq (sAsg 10 (fObjM "copy" f_Board_copy (fVar 8) fNil))
    (sSeq (sExpr (fMethL mAppend (fVar 3) (fCons (fCon (.int 0)) (fNil))))
    (sSeq (sIf (Sf.tOr (tVal (fOp2 oNe (fObjM "score" f_Board_score (fVar 10) fNil) (fOp2 oIx (fCall (pureF f__law_play) (fCons (fVar 2) (fCons (fVar 4) (fNil)))) (fCon (.int 2))))) (tVal (fOp2 oNe (fObjM "winner" f_Board_winner (fVar 8) fNil) (fOp2 oIx (fCall (pureF f__law_play) (fCons (fVar 2) (fCons (fVar 4) (fNil)))) (fCon (.int 0)))))) (sRet (fCon (.bl false))) (sSkip))
    (sSeq (sIf (tVal (fOp2 oGt (fLenO f_Board___len__ (fVar 10)) (fCon (.int 0)))) (sExpr (fObjM "undo" f_Board_undo (fVar 10) fNil)) (sSkip))
    (sRet (fAnd (fOp2 oEq (fObjM "winner" f_Board_winner (fVar 8) fNil) (fCall (pureF f_winner) (fCons (fVar 2) (fCons (fVar 4) (fNil))))) (fOp2 oEq (fLenO f_Board___len__ (fVar 8)) (fOp2 oIx (fCall (pureF f__law_play) (fCons (fVar 2) (fCons (fVar 4) (fNil)))) (fCon (.int 1))))))))))))))))))
def f_law : Fn := fn false 11 b_law
end Sf
end

section
set_option Elab.async false
set_option maxRecDepth 100000
set_option linter.all false
set_option maxHeartbeats 4000000
namespace Sf
open PySem L2
/-! the draws -/
def tw (p q : Int) (R : Sto) : Sto := .lst [.int p, .int q] :: R
theorem nat_blt {a b : Nat} (h : a < b) : Nat.blt a b = true := Nat.ble_eq_true_of_le h
theorem t_draw {ns : List Int} {n p q : Int} {R : Sto} (h1 : 1 ≤ n) (h2 : n < 100000) (hp : 0 ≤ p) (hq : 0 ≤ q) :
    ∃ r p' q', 0 ≤ r ∧ r < n ∧ 0 ≤ p' ∧ 0 ≤ q' ∧ f__law_draw [.scr (ns.map D.int), .loc 0, .int n] (tw p q R) = .ok (.int r) (tw p' q' R) := by
  have n0 : 0 < n := by omega
  have hm : ∀ i : Int, 0 ≤ i % n ∧ i % n < n := fun i => ⟨Int.emod_nonneg _ (by omega), Int.emod_lt_of_pos _ n0⟩
  unfold tw f__law_draw fn b__law_draw
  by_cases c1 : 0 < q
  · refine ⟨q % n, p, q / n, (hm _).1, (hm _).2, hp, Int.ediv_nonneg hq (by omega), ?_⟩
    simp [c1, mod_ok n0, fdiv_ok n0 (show n < 1000000 by omega), end_rt]
  · have p1 : 0 ≤ p + 1 := by omega
    cases ns with
    | nil =>
      refine ⟨p % n, p + 1, q, (hm _).1, (hm _).2, p1, hq, ?_⟩
      have e := eqScr0 (l := []) (S := [.lst [.int (p + 1), .int q]] ++ R)
      simp at e
      simp [c1, e, mod_ok n0, end_rt]
    | cons a as =>
      have e := eqScr0 (l := a :: as) (S := [.lst [.int (p + 1), .int q]] ++ R)
      simp at e
      have L0 : 0 < (((a :: as).length : Nat) : Int) := by simp
      have i2 := ix_int (l := a :: as) (i := p % ((a :: as).length : Nat)) (Int.emod_nonneg _ (by omega)) (Int.emod_lt_of_pos _ L0)
      obtain ⟨k2, _, i2⟩ := i2
      have hw : Nat.blt (((k2 * 1103515245 + 7919 * p + 12345) % 2147483647).natAbs) 18446744073709551616 = true := nat_blt (by omega)
      have m5 : ∀ S, oPow (.int ((k2 * 1103515245 + 7919 * p + 12345) % 2147483647)) (.int 5) S = some (.int (((k2 * 1103515245 + 7919 * p + 12345) % 2147483647) ^ 5), S) := fun _ => by
        unfold oPow
        simp only
        rw [hw]
        rfl
      have q18 : ∀ S, oPow (.int 10) (.int 18) S = some (.int 1000000000000000000, S) := fun _ => rfl
      have q60 : ∀ S, oPow (.int 10) (.int 60) S = some (.int 1000000000000000000000000000000000000000000000000000000000000, S) := fun _ => rfl
      have m60 : ∀ S, oMul false (.int 1000000000000000000000000000000000000000000000000000000000000) (.int 1000000000000000000000000000000000000000000000000000000000000) S = some (.int 1000000000000000000000000000000000000000000000000000000000000000000000000000000000000000000000000000000000000000000000000, S) := fun _ => rfl
      have mq : ∀ i S, oMod (.int i) (.int 1000000000000000000000000000000000000000000000000000000000000000000000000000000000000000000000000000000000000000000000000) S = some (.int (i % 1000000000000000000000000000000000000000000000000000000000000000000000000000000000000000000000000000000000000000000000000), S) := fun _ _ => mod_ok (by decide)
      have mA : ∀ i S, oMod (.int i) (.int 2147483647) S = some (.int (i % 2147483647), S) := fun _ _ => mod_ok (by decide)
      have mB : ∀ i S, oMod (.int i) (.int 999983) S = some (.int (i % 999983), S) := fun _ _ => mod_ok (by decide)
      have mC : ∀ S, oMod (.int p) (.int ((as.length : Int) + 1)) S = some (.int (p % ((as.length : Int) + 1)), S) := fun _ => mod_ok (by omega)
      have mD : ∀ i S, oMul false (.int i) (.int 1103515245) S = some (.int (i * 1103515245), S) := fun _ _ => mul_r rfl
      have mE : ∀ i S, oMul false (.int 7919) (.int i) S = some (.int (7919 * i), S) := fun _ _ => mul_l rfl
      simp only [List.map_cons, List.length_cons, Int.natCast_add, Int.cast_ofNat_Int] at e L0 i2
      by_cases c2 : p < ((a :: as).length : Nat)
      · obtain ⟨k1, _, i1⟩ := ix_int (l := a :: as) (i := p) hp c2
        simp only [List.map_cons, List.length_cons, Int.natCast_add, Int.cast_ofNat_Int] at i1 c2
        by_cases c3 : 1000000000000000000 ≤ k1
        · refine ⟨k1 % n, p + 1, k1 / n % 1000000000000000000000000000000000000000000000000000000000000000000000000000000000000000000000000000000000000000000000000, (hm _).1, (hm _).2, p1, Int.emod_nonneg _ (by decide), ?_⟩
          simp [c1, e, c2, i1, q18, c3, fdiv_ok n0 (show n < 1000000 by omega), q60, m60, mq, mod_ok n0, end_rt]
        · refine ⟨((k2 * 1103515245 + 7919 * p + 12345) % 2147483647) ^ 5 % 2147483647 % 999983 % n, p + 1, q, (hm _).1, (hm _).2, p1, hq, ?_⟩
          simp [c1, e, c2, i1, q18, c3, mA, mB, mC, mD, mE, i2, m5, mod_ok n0, end_rt]
      · refine ⟨((k2 * 1103515245 + 7919 * p + 12345) % 2147483647) ^ 5 % 2147483647 % 999983 % n, p + 1, q, (hm _).1, (hm _).2, p1, hq, ?_⟩
        simp only [List.map_cons, List.length_cons, Int.natCast_add, Int.cast_ofNat_Int] at c2
        simp [c1, e, c2, q18, mA, mB, mC, mD, mE, i2, m5, mod_ok n0, end_rt]

end Sf
end

section
set_option Elab.async false
set_option maxRecDepth 100000
set_option linter.all false
set_option maxHeartbeats 4000000
namespace Sf
open PySem L2
/-! forms -/
structure Lv where
  t : Int
  l : Int
  c : Option Int
def oI : Option Int → D
  | some i => .int i
  | none => .non
@[simp] theorem oI_none : oI none = .non := rfl
@[simp] theorem oI_some {i : Int} : oI (some i) = .int i := rfl
def Lv.D (v : Lv) : Sf.D := .tup [.int v.t, .int v.l, oI v.c]
def Lv.Ok (v : Lv) : Prop := 1 ≤ v.t ∧ v.t ≤ 5 ∧ 1 ≤ v.l ∧ v.l ≤ 3 ∧ ∀ c, v.c = some c → v.t ≤ c ∧ c ≤ 9
def Lv.In (m : Int) (v : Lv) : Prop := 1 ≤ v.t ∧ v.t ≤ m ∧ 1 ≤ v.l ∧ v.l ≤ 3 ∧ (v.c = none ∨ v.c = some v.t ∨ v.c = some (v.t + 1) ∨ v.c = some (v.t + 3))
theorem Lv.In.ok {m : Int} {v : Lv} (h : v.In m) (hm : m ≤ 5) : v.Ok := by
  obtain ⟨h1, h2, h3, h4, h5⟩ := h
  refine ⟨h1, by omega, h3, h4, fun c e => ?_⟩
  rw [e] at h5
  simp at h5
  omega
@[simp] theorem tw_len {p q : Int} {R : Sto} : (tw p q R).length = R.length + 1 := by unfold tw; simp

end Sf
end

section
set_option Elab.async false
set_option maxRecDepth 100000
set_option linter.all false
set_option maxHeartbeats 4000000
namespace Sf
open PySem L2
/-! a random level -/
theorem t_pick {ns : List Int} {l : List D} {p q : Int} {R : Sto} (h1 : l ≠ []) (h2 : l.length < 100000) (hp : 0 ≤ p) (hq : 0 ≤ q) :
    ∃ i p' q', i < l.length ∧ 0 ≤ p' ∧ 0 ≤ q' ∧ ∀ d, l[i]? = some d → f__law_pick [.scr (ns.map D.int), .loc 0, .lst l] (tw p q R) = .ok d (tw p' q' R) := by
  have : 0 < l.length := List.length_pos_iff.mpr h1
  obtain ⟨r, p', q', r1, r2, hp', hq', e⟩ := t_draw (ns := ns) (n := l.length) (R := R) (by omega) (by omega) hp hq
  refine ⟨r.toNat, p', q', by omega, hp', hq', fun d hd => ?_⟩
  unfold f__law_pick fn b__law_pick
  simp [e, ix_nn r1, hd, end_rt]
theorem t_level {ns : List Int} {m p q : Int} {R : Sto} (h1 : 1 ≤ m) (h2 : m ≤ 5) (hp : 0 ≤ p) (hq : 0 ≤ q) :
    ∃ v p' q', Lv.In m v ∧ 0 ≤ p' ∧ 0 ≤ q' ∧ f__law_level [.scr (ns.map D.int), .loc 0, .int m] (tw p q R) = .ok v.D (tw p' q' R) := by
  obtain ⟨r, p1, q1, r1, r2, hp, hq, e1⟩ := t_draw (ns := ns) (n := m) (R := R) (by omega) (by omega) hp hq
  obtain ⟨i, p2, q2, i1, hp, hq, e2⟩ := t_pick (ns := ns) (R := R) (l := [.non, .non, .int (1 + r), .int (1 + r + 1), .int (1 + r + 3)]) (by simp) (by simp) hp hq
  obtain ⟨u, p3, q3, u1, u2, hp, hq, e3⟩ := t_draw (ns := ns) (n := 3) (R := R) (by omega) (by omega) hp hq
  have key : ∀ c : Option Int, ([.non, .non, .int (1 + r), .int (1 + r + 1), .int (1 + r + 3)] : List D)[i]? = some (oI c) → (c = none ∨ c = some (1 + r) ∨ c = some (1 + r + 1) ∨ c = some (1 + r + 3)) →
      ∃ v p' q', Lv.In m v ∧ 0 ≤ p' ∧ 0 ≤ q' ∧ f__law_level [.scr (ns.map D.int), .loc 0, .int m] (tw p q R) = .ok v.D (tw p' q' R) := fun c hc hc' => by
    refine ⟨⟨1 + r, 1 + u, c⟩, p3, q3, ⟨by simp only; omega, by simp only; omega, by simp only; omega, by simp only; omega, hc'⟩, hp, hq, ?_⟩
    have e2 := e2 _ hc
    unfold f__law_level fn b__law_level
    rcases hc' with rfl | rfl | rfl | rfl <;> simp at e2 <;> simp [e1, e2, e3, end_rt, Lv.D]
  match i, i1 with
  | 0, _ => exact key none rfl (.inl rfl)
  | 1, _ => exact key none rfl (.inl rfl)
  | 2, _ => exact key (some (1 + r)) rfl (.inr (.inl rfl))
  | 3, _ => exact key (some (1 + r + 1)) rfl (.inr (.inr (.inl rfl)))
  | 4, _ => exact key (some (1 + r + 3)) rfl (.inr (.inr (.inr rfl)))
  | i + 5, h => simp at h; omega

end Sf
end

section
set_option Elab.async false
set_option maxRecDepth 100000
set_option linter.all false
set_option maxHeartbeats 4000000
namespace Sf
open PySem L2
/-! forms; comprehensions that draw -/
theorem comp_tw {α : Type} (P : α → Prop) (enc : α → D) (e : FE) (env : En) (j : Nat) (R : Sto) : ∀ (l : List D) (p q : Int),
    (∀ d ∈ l, ∀ p q : Int, 0 ≤ p → 0 ≤ q → ∃ a p' q', P a ∧ 0 ≤ p' ∧ 0 ≤ q' ∧ e (env.set j d) (tw p q R) = .ok (enc a) (tw p' q' R)) → 0 ≤ p → 0 ≤ q →
    ∃ (as : List α) (p' q' : Int), as.length = l.length ∧ (∀ a ∈ as, P a) ∧ 0 ≤ p' ∧ 0 ≤ q' ∧ compL (tgName j) tYesF e env l (tw p q R) = .ok (as.map enc) (tw p' q' R)
  | [], p, q, _, hp, hq => ⟨[], p, q, rfl, by simp, hp, hq, rfl⟩
  | d :: l, p, q, h, hp, hq => by
    obtain ⟨a, p1, q1, ha, hp, hq, e1⟩ := h d (by simp) p q hp hq
    obtain ⟨as, p2, q2, l2, has, hp, hq, e2⟩ := comp_tw P enc e env j R l p1 q1 (fun d hd => h d (by simp [hd])) hp hq
    refine ⟨a :: as, p2, q2, by simp [l2], by simpa using ⟨ha, has⟩, hp, hq, ?_⟩
    simp only [compL, x_tgName, x_yes, e1, e2]
    rfl
theorem comp_map {α : Type} (enc enc2 : α → D) (e : FE) (env : En) (j : Nat) (S : Sto) : ∀ (l : List α), (∀ a ∈ l, e (env.set j (enc a)) S = .ok (enc2 a) S) →
    compL (tgName j) tYesF e env (l.map enc) S = .ok (l.map enc2) S
  | [], _ => rfl
  | a :: l, h => by
    simp only [List.map_cons, compL, x_tgName, x_yes, h a (by simp), comp_map enc enc2 e env j S l (fun a ha => h a (by simp [ha]))]
def mostT (k : Nat) : Int := if k < 3 then 5 - k else 2
def Drawn (vs : List Lv) : Prop := 1 ≤ vs.length ∧ vs.length ≤ 3 ∧ ∀ v ∈ vs, v.In (mostT vs.length)
def Form (vs : List Lv) : Prop := 1 ≤ vs.length ∧ vs.length ≤ 3 ∧ ∀ v ∈ vs, v.Ok
theorem Drawn.form {vs : List Lv} (h : Drawn vs) : Form vs := ⟨h.1, h.2.1, fun v hv => (h.2.2 v hv).ok (by unfold mostT; split <;> omega)⟩
abbrev formD (vs : List Lv) : D := .tup (vs.map Lv.D)
theorem rngL_mem {n : Nat} {lo : Int} {d : D} (h : d ∈ rngL lo n) : ∃ k : Int, d = .int k := by
  obtain ⟨i, e⟩ := List.mem_iff_getElem?.mp h
  exact ⟨_, rngL_get e⟩

end Sf
end

section
set_option Elab.async false
set_option maxRecDepth 100000
set_option linter.all false
set_option maxHeartbeats 4000000
namespace Sf
open PySem L2
theorem t_form {ns : List Int} {p q : Int} {R : Sto} (hp : 0 ≤ p) (hq : 0 ≤ q) :
    ∃ vs p' q', Drawn vs ∧ 0 ≤ p' ∧ 0 ≤ q' ∧ f__law_form [.scr (ns.map D.int), .loc 0] (tw p q R) = .ok (formD vs) (tw p' q' R) := by
  obtain ⟨i, p2, q2, i1, hp, hq, e2⟩ := t_pick (ns := ns) (R := R) (l := [.int 1, .int 1, .int 2, .int 2, .int 3]) (by simp) (by simp) hp hq
  have key : ∀ k : Nat, 1 ≤ k → k ≤ 3 → ([.int 1, .int 1, .int 2, .int 2, .int 3] : List D)[i]? = some (.int k) →
      ∃ vs p' q', Drawn vs ∧ 0 ≤ p' ∧ 0 ≤ q' ∧ f__law_form [.scr (ns.map D.int), .loc 0] (tw p q R) = .ok (formD vs) (tw p' q' R) := fun k k1 k2 hk => by
    have e2 := e2 _ hk
    obtain ⟨vs, p3, q3, hl, hv, hp, hq, e⟩ := comp_tw (Lv.In (mostT k)) Lv.D (fCall f__law_level (fCons (fVar 0) (fCons (fVar 1) (fCons (fIf (tVal (fOp2 oLt (fVar 2) (fCon (.int 3)))) (fOp2 (oSub) (fCon (.int 5)) (fVar 2)) (fCon (.int 2))) (fNil)))))
      [.scr (ns.map D.int), .loc 0, .int k, .und] 3 R (rngL 0 k) p2 q2 (fun d hd p q hp hq => by
        obtain ⟨j, rfl⟩ := rngL_mem hd
        by_cases c : k < 3
        · obtain ⟨v, p3, q3, hv, hp, hq, e⟩ := t_level (ns := ns) (R := R) (m := 5 - k) (by omega) (by omega) hp hq
          refine ⟨v, p3, q3, by unfold mostT; rw [if_pos c]; exact hv, hp, hq, ?_⟩
          have c' : (k : Int) < 3 := by omega
          simp [c', e]
        · obtain ⟨v, p3, q3, hv, hp, hq, e⟩ := t_level (ns := ns) (R := R) (m := 2) (by omega) (by omega) hp hq
          refine ⟨v, p3, q3, by unfold mostT; rw [if_neg c]; exact hv, hp, hq, ?_⟩
          have c' : ¬ (k : Int) < 3 := by omega
          simp [c', e]) hp hq
    rw [rngL_len] at hl
    refine ⟨vs, p3, q3, ⟨by omega, by omega, by rw [hl]; exact hv⟩, hp, hq, ?_⟩
    have ks : smallI k = true := by unfold smallI; simp; omega
    have kf : fit k = true := fit_of (by omega)
    unfold f__law_form fn b__law_form
    simp [e2, kRng1, ks, rngL_len, kf, e, end_rt]
  match i, i1 with
  | 0, _ => exact key 1 (by omega) (by omega) rfl
  | 1, _ => exact key 1 (by omega) (by omega) rfl
  | 2, _ => exact key 2 (by omega) (by omega) rfl
  | 3, _ => exact key 2 (by omega) (by omega) rfl
  | 4, _ => exact key 3 (by omega) (by omega) rfl
  | i + 5, h => simp at h; omega

end Sf
end

section
set_option Elab.async false
set_option maxRecDepth 100000
set_option linter.all false
set_option maxHeartbeats 4000000
namespace Sf
open PySem L2
/-! plain parts: pairs, plays -/
abbrev Pr := Int × Int
def prD (p : Pr) : D := .tup [.int p.1, .int p.2]
abbrev stD (st : List Pr) : D := .tup (st.map prD)
def plusM (p : Pr) (s : Int) : Pr := if s = 0 then (p.1 + 1, p.2) else (p.1, p.2 + 1)
def rwM (v : Lv) (p : Pr) : Option Int :=
  if p.2 < p.1 then (if (v.t ≤ p.1 ∧ v.l ≤ p.1 - p.2) ∨ v.c = some p.1 then some 0 else none) else (if (v.t ≤ p.2 ∧ v.l ≤ p.2 - p.1) ∨ v.c = some p.2 then some 1 else none)
@[simp] theorem x_isaInt {i : Int} {S : Sto} : oIsa [.int i, .glob (.ty "int")] S = some (.bl true, S) := rfl
@[simp] theorem x_isaIntB {i : Int} {S : Sto} : oIsa [.int i, .glob (.ty "bool")] S = some (.bl false, S) := rfl
@[simp] theorem x_isaTup {l : List D} {S : Sto} : oIsa [.tup l, .glob (.ty "tuple")] S = some (.bl true, S) := rfl
@[simp] theorem x_isaTup2 {l : List D} {S : Sto} : oIsa [.tup l, .tup [.glob (.ty "list"), .glob (.ty "tuple")]] S = some (.bl true, S) := rfl
@[simp] theorem x_isaLst2 {l : List D} {S : Sto} : oIsa [.lst l, .tup [.glob (.ty "list"), .glob (.ty "tuple")]] S = some (.bl true, S) := rfl
theorem low_Lv {v : Lv} : lowD 0 v.D = true := by obtain ⟨t, l, c⟩ := v; cases c <;> rfl
theorem low_form {vs : List Lv} : lowL 0 [formD vs] = true := by
  have := lowL_map Lv.D (fun _ => low_Lv) vs
  simp [lowL, lowD, this]
theorem x_all {bs : List Bool} {S : Sto} : oAll [.lst (bs.map D.bl)] S = some (.bl (bs.all id), S) := by
  show (match blsD (bs.map D.bl) with
      | some bs => some (D.bl (bs.all id), S)
      | none => none) = _
  rw [blsD_bls]
theorem all_true {α : Type} (l : List α) {S : Sto} : oAll [.lst (l.map fun _ => D.bl true)] S = some (.bl true, S) := by
  have := x_all (bs := l.map fun _ => true) (S := S)
  rw [List.map_map] at this
  rw [show (l.map fun _ => D.bl true) = l.map (D.bl ∘ fun _ => true) from rfl, this]
  simp
abbrev rowD (rs : List Int) : D := .lst (rs.map D.int)
abbrev rowT (rs : List Int) : D := .tup (rs.map D.int)
def Row (rs : List Int) : Prop := rs.length ≤ 200 ∧ ∀ r ∈ rs, r = 0 ∨ r = 1
theorem low_ints (rs : List Int) : lowL 0 (rs.map D.int) = true := lowL_map D.int (fun _ => rfl) rs
def afterM : List Lv → List Pr → Int → List Pr × Option Int
  | v :: vs, p :: ps, s => match rwM v (plusM p s) with
    | none => (plusM p s :: ps, none)
    | some w => match vs with
      | [] => (plusM p s :: ps, some w)
      | vs => ((0, 0) :: (afterM vs ps s).1, (afterM vs ps s).2)
  | _, ps, _ => (ps, none)
theorem ix_mid {A C : List D} {x : D} : ixD (A ++ x :: C) (A.length : Nat) = some x := by
  rw [ix_nn (by omega)]; simp
theorem ixn_mid {n : Nat} {A : List D} (h : A.length < n) : ixN n (A.length : Nat) = some A.length := by
  unfold ixN; rw [if_pos (by omega), if_pos (by omega)]; simp
theorem set_mid {A C : List D} {x y : D} : (A ++ x :: C).set A.length y = A ++ y :: C := by simp
theorem setO_mid {A C : List D} {x y : D} : setO (.loc 0) (.int (A.length : Nat)) y [.lst (A ++ x :: C)] = some [.lst (A ++ y :: C)] := by
  rw [x_setO]; simp [ixn_mid]
theorem low_prs (st : List Pr) : lowL 0 (st.map prD) = true := lowL_map prD (fun _ => rfl) st
theorem pl_pr {n : Nat} {p : Pr} : pl (n + 1) (prD p) = true := by simp [prD, pl, plL_cons, plL_nil, pl_int]
theorem pl_st {n : Nat} (st : List Pr) : plL (n + 1) (st.map prD) = true := plL_map prD (fun _ => pl_pr) st
theorem afterM_len : ∀ (vs : List Lv) (st : List Pr) (s : Int), (afterM vs st s).1.length = st.length
  | [], st, s => by cases st <;> simp [afterM]
  | v :: vs, [], s => by simp [afterM]
  | v :: vs, p :: ps, s => by
    unfold afterM
    cases rwM v (plusM p s) with
    | none => simp
    | some w =>
      cases vs with
      | nil => simp
      | cons v2 vs => simp [afterM_len (v2 :: vs) ps s]
structure Play where
  st : List Pr
  w : Option Int
  m : Int
def stepM (vs : List Lv) (x : Play) (s : Int) : Play := match x.w with
  | none => ⟨(afterM vs x.st s).1, (afterM vs x.st s).2, x.m + 1⟩
  | some _ => x
def start (vs : List Lv) : Play := ⟨List.replicate vs.length (0, 0), none, 0⟩
def playM (vs : List Lv) (rs : List Int) : Play := rs.foldl (stepM vs) (start vs)
theorem stepM_len {vs : List Lv} {x : Play} {s : Int} : (stepM vs x s).st.length = x.st.length := by
  unfold stepM; cases x.w with
  | none => simp [afterM_len]
  | some w => rfl
theorem fold_len {vs : List Lv} : ∀ (rs : List Int) (x : Play), (rs.foldl (stepM vs) x).st.length = x.st.length
  | [], x => rfl
  | s :: rs, x => by rw [List.foldl_cons, fold_len rs, stepM_len]
theorem rep_one (l : D) : ∀ n : Nat, (List.replicate n [l]).flatten = List.replicate n l
  | 0 => rfl
  | n + 1 => by rw [List.replicate_succ, List.flatten_cons, rep_one l n, List.replicate_succ]; rfl
theorem x_repT {d : D} {n : Nat} {S : Sto} (h1 : 1 ≤ n) (h2 : n ≤ 1000) : oMul false (.tup [d]) (.int n) S = some (.tup (List.replicate n d), S) := by
  show (bif decide ((n : Int) = 1) then some (D.tup [d], S) else bif true && true && decide ((2 : Int) ≤ n) && decide ((n : Int) ≤ 1000) then some (.tup (List.replicate (n : Int).toNat [d]).flatten, S) else none) = _
  by_cases h : n = 1
  · subst h; rfl
  · rw [decide_eq_false (show ¬ ((n : Int) = 1) by omega), decide_eq_true (show (2 : Int) ≤ n by omega), decide_eq_true (show (n : Int) ≤ 1000 by omega), Int.toNat_natCast, rep_one]; rfl
theorem low_form' {vs : List Lv} : lowD 0 (formD vs) = true := by show lowL 0 (vs.map Lv.D) = true; exact lowL_map Lv.D (fun _ => low_Lv) vs
theorem pl_oI {n : Nat} {w : Option Int} : pl n (oI w) = true := by cases w <;> cases n <;> rfl
theorem low_row {rs : List Int} {row : D} (hr : row = rowD rs ∨ row = rowT rs) : lowD 0 row = true := by rcases hr with rfl | rfl <;> exact low_ints rs
theorem low_fr {vs : List Lv} {rs : List Int} {row : D} (hr : row = rowD rs ∨ row = rowT rs) : lowL 0 [formD vs, row] = true := by
  simp only [lowL, low_form', low_row hr]; rfl

end Sf
end

section
set_option Elab.async false
set_option maxRecDepth 100000
set_option linter.all false
set_option maxHeartbeats 4000000
namespace Sf
open PySem L2
theorem cut_to {l : List Int} {k : Int} {S : Sto} (h1 : 0 ≤ k) (h2 : k ≤ l.length) (h3 : l.length ≤ 1000) : oCut false (rowD l) none (some k) S = some (rowD (l.take k.toNat), S) := by
  have e : cutD (l.map D.int) none (some k) = (l.take k.toNat).map D.int := by
    unfold cutD
    obtain ⟨n, rfl⟩ := Int.eq_ofNat_of_zero_le h1
    rw [HT.sIx_none, HT.sIx_nat, List.length_map, Nat.min_eq_left (by omega), List.drop_zero, Nat.sub_zero, ← List.map_take]; rfl
  show mkL false (cutD (l.map D.int) none (some k)) S = _
  rw [e, x_mkF, fit_of (by simp; omega)]; rfl
@[simp] theorem x_cut {m : Bool} {a : FE} {lo hi : FO} {env : En} {S : Sto} : fCut m a lo hi env S = (a env S).bind fun x S1 => (lo env S1).bind fun l S2 => (hi env S2).bind fun u S3 => outO (oCut m x l u S3) := rfl
@[simp] theorem x_nopart {env : En} {S : Sto} : fNoPart env S = .ok none S := rfl
@[simp] theorem x_part {f : FE} {env : En} {S : Sto} : fPart f env S = (f env S).bind fun x S1 => match x with
  | .int i => .ok (some i) S1
  | _ => .bad := rfl

end Sf
end

section
set_option Elab.async false
set_option maxRecDepth 100000
set_option linter.all false
set_option maxHeartbeats 4000000
namespace Sf
open PySem L2
/-! is_form -/
theorem t_is_count {i a b : Int} {S : Sto} : pureF f_is_count [.int i, .int a, .int b] S = .ok (.bl (decide (a ≤ i) && decide (i ≤ b))) S := by
  apply pure_eq
  · rfl
  · unfold f_is_count fn b_is_count
    by_cases h : a ≤ i <;> simp [h, end_rt]
theorem t_is_level {v : Lv} {S : Sto} (h : v.Ok) : pureF f_is_level [v.D] S = .ok (.bl true) S := by
  obtain ⟨h1, h2, h3, h4, h5⟩ := h
  obtain ⟨t, l, c⟩ := v
  simp only at h1 h2 h3 h4 h5
  cases c with
  | none =>
    apply pure_eq
    · rfl
    · unfold f_is_level fn b_is_level Lv.D
      simp [t_is_count, h1, h2, h3, h4, end_rt]
  | some c =>
    have h5 := h5 c rfl
    apply pure_eq
    · rfl
    · unfold f_is_level fn b_is_level Lv.D
      simp [t_is_count, h1, h2, h3, h4, h5.1, h5.2, end_rt]
theorem t_is_form {vs : List Lv} {S : Sto} (h : Form vs) : pureF f_is_form [formD vs] S = .ok (.bl true) S := by
  obtain ⟨h1, h2, h3⟩ := h
  refine pure_eq low_form ?_
  unfold f_is_form fn b_is_form
  have e := comp_map Lv.D (fun _ => D.bl true) (fCall (pureF f_is_level) (fCons (fVar 1) (fNil))) [formD vs, .und] 1 [] vs (fun a ha => by have := t_is_level (S := []) (h3 a ha); unfold Lv.D at this ⊢; simp [this])
  have f : fit vs.length = true := fit_of (by omega)
  have g1 : (1 : Int) ≤ vs.length := by omega
  have g2 : (vs.length : Int) ≤ 3 := by omega
  simp [g1, g2, f, e, all_true, end_rt]
theorem t_need_form {vs : List Lv} {S : Sto} (h : Form vs) : pureF f_need_form [formD vs] S = .ok .non S := by
  refine pure_eq low_form ?_
  unfold f_need_form fn b_need_form
  simp [t_is_form h]; rfl

end Sf
end

section
set_option Elab.async false
set_option maxRecDepth 100000
set_option linter.all false
set_option maxHeartbeats 4000000
namespace Sf
open PySem L2
/-! plus, round_winner -/
theorem t_plus {p : Pr} {s : Int} {S : Sto} : pureF f_plus [prD p, .int s] S = .ok (prD (plusM p s)) S := by
  apply pure_eq
  · rfl
  · unfold f_plus fn b_plus prD plusM
    by_cases h : s = 0 <;> simp [h, end_rt]
theorem t_rw {v : Lv} {p : Pr} {S : Sto} : pureF f_round_winner [v.D, prD p] S = .ok (oI (rwM v p)) S := by
  obtain ⟨t, l, c⟩ := v
  obtain ⟨a, b⟩ := p
  refine pure_eq (by simp [lowL, lowD, low_Lv, prD]) ?_
  unfold f_round_winner fn b_round_winner Lv.D prD rwM
  cases c with
  | none =>
    by_cases h : b < a
    · by_cases h1 : t ≤ a <;> by_cases h2 : l ≤ a - b <;> simp [h, h1, h2, end_rt]
    · by_cases h1 : t ≤ b <;> by_cases h2 : l ≤ b - a <;> simp [h, h1, h2, end_rt]
  | some c =>
    by_cases h : b < a
    · by_cases h3 : c = a
      · subst h3; by_cases h1 : t ≤ c <;> by_cases h2 : l ≤ c - b <;> simp [h, h1, h2, end_rt]
      · have h4 : ¬ a = c := fun e => h3 e.symm
        by_cases h1 : t ≤ a <;> by_cases h2 : l ≤ a - b <;> simp [h, h1, h2, h3, h4, end_rt]
    · by_cases h3 : c = b
      · subst h3; by_cases h1 : t ≤ c <;> by_cases h2 : l ≤ c - a <;> simp [h, h1, h2, end_rt]
      · have h4 : ¬ b = c := fun e => h3 e.symm
        by_cases h1 : t ≤ b <;> by_cases h2 : l ≤ b - a <;> simp [h, h1, h2, h3, h4, end_rt]

end Sf
end

section
set_option Elab.async false
set_option maxRecDepth 100000
set_option linter.all false
set_option maxHeartbeats 4000000
namespace Sf
open PySem L2
/-! after -/
def afterB : FS := (sSeq (sAsgIx (fCall (pureF f_plus) (fCons (fOp2 oIx (fVar 3) (fVar 4)) (fCons (fVar 2) (fNil)))) (fVar 3) (fVar 4))
    (sSeq (sAsg 6 (fCall (pureF f_round_winner) (fCons (fVar 5) (fCons (fOp2 oIx (fVar 3) (fVar 4)) (fNil)))))
    (sSeq (sIf (tVal (fOp2 oIs (fVar 6) (fCon .non))) (sBreak) (sSkip))
    (sSeq (sIf (tVal (fOp2 oEq (fOp2 (oAdd false) (fVar 4) (fCon (.int 1))) (fOpN oLen (fCons (fVar 0) (fNil))))) (sRet (fTup (fCons (fOpN (oTuple) (fCons (fVar 3) (fNil))) (fCons (fVar 6) (fNil))))) (sSkip))
    (sAsgIx (fTup (fCons (fCon (.int 0)) (fCons (fCon (.int 0)) (fNil)))) (fVar 3) (fVar 4))))))
theorem t_afterStep {fs : List D} {z c : D} {s : Int} {v : Lv} {p : Pr} {A C : List D} (hA : A.length < fs.length) (hf : fs.length ≤ 1000) (hC : (A ++ prD p :: C).length = fs.length) :
    afterB [.tup fs, z, .int s, .loc 0, .int (A.length : Nat), v.D, c] [.lst (A ++ prD p :: C)] = match rwM v (plusM p s) with
    | none => .bk [.tup fs, z, .int s, .loc 0, .int (A.length : Nat), v.D, .non] [.lst (A ++ prD (plusM p s) :: C)]
    | some w => if A.length + 1 = fs.length then .rt (.tup [.tup (A ++ prD (plusM p s) :: C), .int w]) [.lst (A ++ prD (plusM p s) :: C)]
       else .nx [.tup fs, z, .int s, .loc 0, .int (A.length : Nat), v.D, .int w] [.lst (A ++ prD (0, 0) :: C)] := by
  have ep : ∀ S, pureF f_plus [prD p, .int s] S = .ok (prD (plusM p s)) S := fun S => t_plus
  have er : ∀ S, pureF f_round_winner [v.D, prD (plusM p s)] S = .ok (oI (rwM v (plusM p s))) S := fun S => t_rw
  have so : ∀ x y, setO (.loc 0) (.int (A.length : Nat)) y [.lst (A ++ x :: C)] = some [.lst (A ++ y :: C)] := fun x y => setO_mid
  have z0 : prD (0, 0) = .tup [.int 0, .int 0] := rfl
  unfold afterB
  rw [z0]
  unfold Lv.D at er ⊢
  cases hw : rwM v (plusM p s) with
  | none =>
    rw [hw] at er
    simp [-x_setO, ix_mid, ep, er, so]
  | some w =>
    rw [hw] at er
    by_cases h : A.length + 1 = fs.length
    · have h' : (A.length : Int) + 1 = fs.length := by omega
      simp [-x_setO, ix_mid, ep, er, so, h, h']
    · have h' : ¬ (A.length : Int) + 1 = fs.length := by omega
      simp [-x_setO, ix_mid, ep, er, so, h, h']
theorem t_afterB {fs : List D} {z : D} {s : Int} (hf : fs.length ≤ 1000) : ∀ (vs : List Lv) (ps : List Pr) (A : List D) (a b c : D), ps.length = vs.length → fs.length = A.length + vs.length →
    match afterM vs ps s with
    | (ps', some w) => forL (unTup [4, 5]) afterB (enumL A.length (vs.map Lv.D)) [.tup fs, z, .int s, .loc 0, a, b, c] [.lst (A ++ ps.map prD)] = .rt (.tup [.tup (A ++ ps'.map prD), .int w]) [.lst (A ++ ps'.map prD)]
    | (ps', none) => ∃ a' b' c', forL (unTup [4, 5]) afterB (enumL A.length (vs.map Lv.D)) [.tup fs, z, .int s, .loc 0, a, b, c] [.lst (A ++ ps.map prD)] = .nx [.tup fs, z, .int s, .loc 0, a', b', c'] [.lst (A ++ ps'.map prD)]
  | [], ps, A, a, b, c, h1, h2 => ⟨a, b, c, rfl⟩
  | v :: vs, [], A, a, b, c, h1, h2 => by simp at h1
  | v :: vs, p :: ps, A, a, b, c, h1, h2 => by
    simp only [List.length_cons] at h1 h2
    have st := t_afterStep (z := z) (c := c) (s := s) (v := v) (p := p) (A := A) (C := ps.map prD) (fs := fs) (by omega) hf (by simp; omega)
    have un : unTup [4, 5] (.tup [.int (A.length : Nat), v.D]) [.tup fs, z, .int s, .loc 0, a, b, c] = some [.tup fs, z, .int s, .loc 0, .int (A.length : Nat), v.D, c] := rfl
    have fo : forL (unTup [4, 5]) afterB (enumL A.length ((v :: vs).map Lv.D)) [.tup fs, z, .int s, .loc 0, a, b, c] [.lst (A ++ (p :: ps).map prD)] = forK (unTup [4, 5]) afterB (enumL (A.length + 1) (vs.map Lv.D)) (afterB [.tup fs, z, .int s, .loc 0, .int (A.length : Nat), v.D, c] [.lst (A ++ prD p :: ps.map prD)]) := by
      rw [List.map_cons, List.map_cons, enumL_cons, forL_cons un]
    cases hw : rwM v (plusM p s) with
    | none =>
      have e : afterM (v :: vs) (p :: ps) s = (plusM p s :: ps, none) := by unfold afterM; rw [hw]
      rw [e]
      rw [hw] at st
      refine ⟨.int (A.length : Nat), v.D, .non, ?_⟩
      rw [fo, st]; rfl
    | some w =>
      rw [hw] at st
      cases vs with
      | nil =>
        have e : afterM [v] (p :: ps) s = (plusM p s :: ps, some w) := by unfold afterM; rw [hw]
        rw [e]
        simp only [List.length_nil] at h2
        have st : _ = if A.length + 1 = fs.length then SR.rt (.tup [.tup (A ++ prD (plusM p s) :: ps.map prD), .int w]) [.lst (A ++ prD (plusM p s) :: ps.map prD)] else _ := st
        rw [if_pos (by omega)] at st
        show forL _ _ _ _ _ = _
        rw [fo, st]; rfl
      | cons v2 vs =>
        have e : afterM (v :: v2 :: vs) (p :: ps) s = ((0, 0) :: (afterM (v2 :: vs) ps s).1, (afterM (v2 :: vs) ps s).2) := by rw [afterM, hw]
        simp only [List.length_cons] at h2
        have st : _ = if A.length + 1 = fs.length then _ else SR.nx [.tup fs, z, .int s, .loc 0, .int (A.length : Nat), v.D, .int w] [.lst (A ++ prD (0, 0) :: ps.map prD)] := st
        rw [if_neg (by omega)] at st
        have ih := t_afterB (fs := fs) (z := z) (s := s) hf (v2 :: vs) ps (A ++ [prD (0, 0)]) (.int (A.length : Nat)) v.D (.int w) (by simp at h1 ⊢; omega) (by simp; omega)
        rw [e, fo, st]
        cases hr : afterM (v2 :: vs) ps s with
        | mk q r =>
          rw [hr] at ih
          simp only [List.length_append, List.length_cons, List.length_nil, Nat.zero_add, List.append_assoc, List.singleton_append] at ih
          cases r with
          | none => exact ih
          | some w2 => exact ih
theorem t_after {vs : List Lv} {st : List Pr} {s : Int} {S : Sto} (hv : vs.length ≤ 1000) (h : st.length = vs.length) :
    pureF f_after [formD vs, stD st, .int s] S = .ok (.tup [stD (afterM vs st s).1, oI (afterM vs st s).2]) S := by
  refine pure_eq (by simp [lowL, lowD, low_prs]; exact lowL_map Lv.D (fun _ => low_Lv) vs) ?_
  have key := t_afterB (fs := vs.map Lv.D) (z := stD st) (s := s) (by simp; omega) vs st [] .und .und .und h (by simp)
  have f : fit st.length = true := fit_of (by omega)
  unfold f_after fn b_after
  change fnEnd false 0 (sSeq (sAsg 3 (fOpN (oList true) (fCons (fVar 1) (fNil)))) (sSeq (sFor (iOf kEnum (fCons (fVar 0) (fNil))) (unTup [4, 5]) afterB) (sRet (fTup (fCons (fOpN (oTuple) (fCons (fVar 3) (fNil))) (fCons (fCon .non) (fNil)))))) [formD vs, stD st, .int s, .und, .und, .und, .und] []) = _
  have e3 : oList true [stD st] [] = some (.loc 0, [.lst (st.map prD)]) := by
    show mkL true (st.map prD) [] = _
    simp [f]
  have hd : (sSeq (sAsg 3 (fOpN (oList true) (fCons (fVar 1) (fNil)))) (sSeq (sFor (iOf kEnum (fCons (fVar 0) (fNil))) (unTup [4, 5]) afterB) (sRet (fTup (fCons (fOpN (oTuple) (fCons (fVar 3) (fNil))) (fCons (fCon .non) (fNil)))))) [formD vs, stD st, .int s, .und, .und, .und, .und] []) =
    (forL (unTup [4, 5]) afterB (enumL 0 (vs.map Lv.D)) [formD vs, stD st, .int s, .loc 0, .und, .und, .und] [.lst (st.map prD)]).bindN (sRet (fTup (fCons (fOpN (oTuple) (fCons (fVar 3) (fNil))) (fCons (fCon .non) (fNil))))) := by
    simp only [x_seq, x_asg, x_opN, x_cons, x_var, x_nil, List.getElem?_cons_succ, List.getElem?_cons_zero, x_bind, e3, x_outO, x_bindS, x_bindN]
    rfl
  rw [hd]
  cases hr : afterM vs st s with
  | mk q r =>
    have fin : ∀ d : D, pl 2 d = true → fnEnd false 0 (.rt (.tup [stD q, d]) [.lst (q.map prD)]) = .ok (.tup [stD q, d]) [] := fun d hd =>
      end_pl (n := 3) (by simp [pl, plL_cons, plL_nil, hd, pl_st]) (by omega)
    rw [hr] at key
    cases r with
    | none =>
      obtain ⟨a', b', c', key⟩ := key
      simp only [List.nil_append, List.length_nil] at key
      rw [key]
      have := fin .non rfl
      simpa using this
    | some w =>
      simp only [List.nil_append, List.length_nil] at key
      rw [key]
      exact fin (.int w) rfl

end Sf
end

section
set_option Elab.async false
set_option maxRecDepth 100000
set_option linter.all false
set_option maxHeartbeats 4000000
namespace Sf
open PySem L2
/-! while -/
theorem while_go {c : FT} {b : FS} {m : Nat} {env env' : En} {S S' S2 : Sto} (h : c env S = .ok true S2) (h2 : b env S2 = .nx env' S') : whileL c b (m + 1) env S = whileL c b m env' S' := by
  show ((c env S).bindS fun x S1 => bif x then (match b env S1 with
    | .nx env' S' => whileL c b m env' S'
    | .ct env' S' => whileL c b m env' S'
    | .bk env' S' => .nx env' S'
    | r => r) else .nx env S1) = _
  rw [h, x_bindS, cond_true, h2]
theorem while_end {c : FT} {b : FS} {m : Nat} {env : En} {S S2 : Sto} (h : c env S = .ok false S2) : whileL c b (m + 1) env S = .nx env S2 := by
  show ((c env S).bindS fun x S1 => bif x then (match b env S1 with
    | .nx env' S' => whileL c b m env' S'
    | .ct env' S' => whileL c b m env' S'
    | .bk env' S' => .nx env' S'
    | r => r) else .nx env S1) = _
  rw [h, x_bindS, cond_false]

end Sf
end

section
set_option Elab.async false
set_option maxRecDepth 100000
set_option linter.all false
set_option maxHeartbeats 4000000
namespace Sf
open PySem L2
/-! loops, followed by plain steps -/
theorem forP {α σ : Type} {g : D → En → Option En} {b : FS} {enc : α → D} {inv : σ → En → Sto → Prop} {step : σ → α → σ} {L : List α} {s0 : σ}
    (hb : ∀ pre x post, L = pre ++ x :: post → ∀ env S, inv (pre.foldl step s0) env S → ∃ env1 env' S', g (enc x) env = some env1 ∧ b env1 S = .nx env' S' ∧ inv (step (pre.foldl step s0) x) env' S') :
    ∀ (l pre : List α) (env : En) (S : Sto), L = pre ++ l → inv (pre.foldl step s0) env S →
    ∃ env' S', forL g b (l.map enc) env S = .nx env' S' ∧ inv (L.foldl step s0) env' S'
  | [], pre, env, S, e, h => ⟨env, S, rfl, by rw [e, List.append_nil]; exact h⟩
  | x :: l, pre, env, S, e, h => by
    obtain ⟨env1, env', S', e1, e2, h'⟩ := hb pre x l e env S h
    obtain ⟨env2, S2, e3, h2⟩ := forP hb l (pre ++ [x]) env' S' (by rw [e]; simp) (by rw [List.foldl_append]; exact h')
    refine ⟨env2, S2, ?_, h2⟩
    rw [List.map_cons, forL_cons e1, e2]
    exact e3
theorem forE {α σ : Type} {g : D → En → Option En} {b : FS} {enc : α → D} {inv : σ → En → Sto → Prop} {step : σ → α → σ} (l : List α) (s : σ) (env : En) (S : Sto)
    (hb : ∀ x ∈ l, ∀ s env S, inv s env S → ∃ env1 env' S', g (enc x) env = some env1 ∧ b env1 S = .nx env' S' ∧ inv (step s x) env' S') (h : inv s env S) :
    ∃ env' S', forL g b (l.map enc) env S = .nx env' S' ∧ inv (l.foldl step s) env' S' :=
  forP (L := l) (s0 := s) (fun pre x post e env S h => hb x (by rw [e]; simp) _ env S h) l [] env S rfl h
theorem forV_go {g : D → En → Option En} {b : FS} {n k i : Nat} {env env1 env' : En} {S S' : Sto} {l : List D} {d : D} (h : S[n]? = some (.lst l)) (hd : l[i]? = some d) (h1 : g d env = some env1) (h2 : b env1 S = .nx env' S') :
    forV g b n (k + 1) i env S = forV g b n k (i + 1) env' S' := by
  show (match S[n]? with
    | some (.lst l) => match l[i]? with
      | some d => match g d env with
        | none => SR.bad
        | some env1 => match b env1 S with
          | .nx env' S' => forV g b n k (i + 1) env' S'
          | .ct env' S' => forV g b n k (i + 1) env' S'
          | .bk env' S' => .nx env' S'
          | r => r
      | none => .nx env S
    | _ => .bad) = _
  rw [h]; simp only; rw [hd]; simp only; rw [h1]; simp only; rw [h2]
theorem forV_end {g : D → En → Option En} {b : FS} {n k i : Nat} {env : En} {S : Sto} {l : List D} (h : S[n]? = some (.lst l)) (hd : l[i]? = none) : forV g b n (k + 1) i env S = .nx env S := by
  show (match S[n]? with
    | some (.lst l) => match l[i]? with
      | some d => match g d env with
        | none => SR.bad
        | some env1 => match b env1 S with
          | .nx env' S' => forV g b n k (i + 1) env' S'
          | .ct env' S' => forV g b n k (i + 1) env' S'
          | .bk env' S' => .nx env' S'
          | r => r
      | none => .nx env S
    | _ => .bad) = _
  rw [h]; simp only; rw [hd]
theorem forVP {α σ : Type} {g : D → En → Option En} {b : FS} {enc : α → D} {inv : σ → En → Sto → Prop} {step : σ → α → σ} {n : Nat} {L : List α} {s0 : σ}
    (hL : ∀ s env S, inv s env S → S[n]? = some (.lst (L.map enc)))
    (hb : ∀ pre x post, L = pre ++ x :: post → ∀ env S, inv (pre.foldl step s0) env S → ∃ env1 env' S', g (enc x) env = some env1 ∧ b env1 S = .nx env' S' ∧ inv (step (pre.foldl step s0) x) env' S') :
    ∀ (l pre : List α) (env : En) (S : Sto), L = pre ++ l → inv (pre.foldl step s0) env S → ∃ env' S', forV g b n (l.length + 1) pre.length env S = .nx env' S' ∧ inv (L.foldl step s0) env' S'
  | [], pre, env, S, e, h => by
    refine ⟨env, S, forV_end (hL _ _ _ h) ?_, by rw [e, List.append_nil]; exact h⟩
    rw [e]; simp
  | x :: l, pre, env, S, e, h => by
    obtain ⟨env1, env', S', e1, e2, h'⟩ := hb pre x l e env S h
    obtain ⟨env2, S2, e3, h2⟩ := forVP hL hb l (pre ++ [x]) env' S' (by rw [e]; simp) (by rw [List.foldl_append]; exact h')
    refine ⟨env2, S2, ?_, h2⟩
    rw [List.length_cons, forV_go (hL _ _ _ h) (d := enc x) (by rw [e]; simp) e1 e2]
    rw [List.length_append] at e3
    exact e3
/-- a walk over a value or a place -/
theorem forDP {α σ : Type} {a : FE} {g : D → En → Option En} {b : FS} {enc : α → D} {inv : σ → En → Sto → Prop} {step : σ → α → σ} {L : List α} {x : D} {s : σ} {env : En} {S : Sto}
    (ha : a env S = .ok x S) (hx : x = .lst (L.map enc) ∨ ∃ n, x = .loc n ∧ ∀ s env S, inv s env S → S[n]? = some (.lst (L.map enc)))
    (hb : ∀ pre x post, L = pre ++ x :: post → ∀ env S, inv (pre.foldl step s) env S → ∃ env1 env' S', g (enc x) env = some env1 ∧ b env1 S = .nx env' S' ∧ inv (step (pre.foldl step s) x) env' S') (h : inv s env S) :
    ∃ env' S', sForD a g b env S = .nx env' S' ∧ inv (L.foldl step s) env' S' := by
  unfold sForD
  rw [ha]
  rcases hx with rfl | ⟨n, rfl, hn⟩
  · exact forP hb L [] env S rfl h
  · have e := hn _ _ _ h
    obtain ⟨env', S', e1, h1⟩ := forVP hn hb L [] env S rfl h
    refine ⟨env', S', ?_, h1⟩
    show (match S[n]? with
      | some (.lst l) => forV g b n (l.length + 1) 0 env S
      | _ => .bad) = _
    rw [e]
    simp only [List.length_map]
    exact e1
def itn {σ : Type} (f : σ → σ) : Nat → σ → σ
  | 0, s => s
  | n + 1, s => itn f n (f s)
theorem itn_succ {σ : Type} {f : σ → σ} : ∀ (n : Nat) (s : σ), itn f (n + 1) s = f (itn f n s)
  | 0, s => rfl
  | n + 1, s => itn_succ n (f s)
theorem whileP {σ : Type} {c : FT} {b : FS} {inv : σ → En → Sto → Prop} {step : σ → σ} {cont : σ → Bool} {s0 : σ} {n : Nat}
    (hc : ∀ i, i ≤ n → ∀ env S, inv (itn step i s0) env S → c env S = .ok (cont (itn step i s0)) S) (hb : ∀ i, i < n → ∀ env S, inv (itn step i s0) env S → ∃ env' S', b env S = .nx env' S' ∧ inv (itn step (i + 1) s0) env' S')
    (h1 : ∀ i, i < n → cont (itn step i s0) = true) (h2 : cont (itn step n s0) = false) :
    ∀ (m i fuel : Nat) (env : En) (S : Sto), i + m = n → inv (itn step i s0) env S → m < fuel →
    ∃ env' S', whileL c b fuel env S = .nx env' S' ∧ inv (itn step n s0) env' S'
  | 0, i, fuel + 1, env, S, e, h, _ => by
    have : i = n := by omega
    subst this
    exact ⟨env, S, while_end (S2 := S) (by rw [hc i (Nat.le_refl _) env S h]; exact congrArg (Out.ok · S) h2), h⟩
  | m + 1, i, fuel + 1, env, S, e, h, hf => by
    obtain ⟨env1, S1, e1, i1⟩ := hb i (by omega) env S h
    obtain ⟨env', S', e2, i2⟩ := whileP hc hb h1 h2 m (i + 1) fuel env1 S1 (by omega) i1 (by omega)
    refine ⟨env', S', ?_, i2⟩
    rw [while_go (S2 := S) (by rw [hc i (by omega) env S h]; exact congrArg (Out.ok · S) (h1 i (by omega))) e1]
    exact e2

end Sf
end

section
set_option Elab.async false
set_option maxRecDepth 100000
set_option linter.all false
set_option maxHeartbeats 4000000
namespace Sf
open PySem L2
/-! the law's playing -/
def lwon (v : Lv) (a b : Int) : Bool := (decide (v.t ≤ a) && decide (v.l ≤ a - b)) || (match v.c with
  | none => false
  | some c => decide (a = c))
theorem t_law_won {v : Lv} {a b : Int} {S : Sto} : pureF f__law_won [v.D, .int a, .int b] S = .ok (.bl (lwon v a b)) S := by
  obtain ⟨t, l, c⟩ := v
  refine pure_eq (by simp [lowL, lowD, low_Lv]) ?_
  unfold f__law_won fn b__law_won Lv.D lwon
  cases c with
  | none => by_cases h1 : t ≤ a <;> by_cases h2 : l ≤ a - b <;> simp [h1, h2, end_rt]
  | some c => by_cases h1 : t ≤ a <;> by_cases h2 : l ≤ a - b <;> simp [h1, h2, end_rt]
def prL (p : Pr) : D := .lst [.int p.1, .int p.2]
abbrev stL (st : List Pr) : D := .lst (st.map prL)
def ownP (p : Pr) (s : Int) : Int := if s = 0 then p.1 else p.2
def lwonP (v : Lv) (p : Pr) (s : Int) : Bool := lwon v (ownP p s) (ownP p (1 - s))
def afterL : List Lv → List Pr → Int → List Pr × Option Int
  | v :: vs, p :: ps, s => bif lwonP v (plusM p s) s then (match vs with
      | [] => (plusM p s :: ps, some s)
      | vs => ((0, 0) :: (afterL vs ps s).1, (afterL vs ps s).2)) else (plusM p s :: ps, none)
  | _, ps, _ => (ps, none)
@[simp] theorem x_listL {l : List D} {S : Sto} : oList true [.lst l] S = mkL true l S := rfl
@[simp] theorem x_ixn10 : ixN 1 0 = some 0 := rfl
@[simp] theorem x_ixn30 : ixN 3 0 = some 0 := rfl
@[simp] theorem x_ixn31 : ixN 3 1 = some 1 := rfl
@[simp] theorem x_ixn32 : ixN 3 2 = some 2 := rfl
theorem low_prL (st : List Pr) : lowL 0 (st.map prL) = true := lowL_map prL (fun _ => rfl) st
theorem low_pL {p : Pr} : lowD 0 (prL p) = true := rfl
theorem t_law_after1 {v0 : Lv} {p0 : Pr} {s : Int} {S : Sto} (hs : s = 0 ∨ s = 1) :
    pureF f__law_after [formD [v0], stL [p0], .int s] S = .ok (.tup [stL (afterL [v0] [p0] s).1, oI (afterL [v0] [p0] s).2]) S := by
  refine pure_eq (by simp [lowL, low_form', low_prL, lowD, low_Lv, low_pL]) ?_
  obtain ⟨a0, b0⟩ := p0
  have hw : ∀ (v : Lv) a b S, pureF f__law_won [.tup [.int v.t, .int v.l, oI v.c], .int a, .int b] S = .ok (.bl (lwon v a b)) S := fun v a b S => t_law_won
  unfold f__law_after fn b__law_after
  rcases hs with rfl | rfl
  · cases h0 : lwon v0 (a0 + 1) b0 <;> (simp [prL, Lv.D, compL, kRng1, smallI, rngL, forL, hw, plusM, ownP, afterL, lwonP, h0]; rfl)
  · cases h0 : lwon v0 (b0 + 1) a0 <;> (simp [prL, Lv.D, compL, kRng1, smallI, rngL, forL, hw, plusM, ownP, afterL, lwonP, h0]; rfl)
theorem t_law_after2 {v0 v1 : Lv} {p0 p1 : Pr} {s : Int} {S : Sto} (hs : s = 0 ∨ s = 1) :
    pureF f__law_after [formD [v0, v1], stL [p0, p1], .int s] S = .ok (.tup [stL (afterL [v0, v1] [p0, p1] s).1, oI (afterL [v0, v1] [p0, p1] s).2]) S := by
  refine pure_eq (by simp [lowL, low_form', low_prL, lowD, low_Lv, low_pL]) ?_
  obtain ⟨a0, b0⟩ := p0
  obtain ⟨a1, b1⟩ := p1
  have hw : ∀ (v : Lv) a b S, pureF f__law_won [.tup [.int v.t, .int v.l, oI v.c], .int a, .int b] S = .ok (.bl (lwon v a b)) S := fun v a b S => t_law_won
  unfold f__law_after fn b__law_after
  rcases hs with rfl | rfl
  · cases h0 : lwon v0 (a0 + 1) b0 <;> cases h1 : lwon v1 (a1 + 1) b1 <;> (simp [prL, Lv.D, compL, kRng1, smallI, rngL, forL, hw, plusM, ownP, afterL, lwonP, h0, h1]; rfl)
  · cases h0 : lwon v0 (b0 + 1) a0 <;> cases h1 : lwon v1 (b1 + 1) a1 <;> (simp [prL, Lv.D, compL, kRng1, smallI, rngL, forL, hw, plusM, ownP, afterL, lwonP, h0, h1]; rfl)
theorem t_law_after3 {v0 v1 v2 : Lv} {p0 p1 p2 : Pr} {s : Int} {S : Sto} (hs : s = 0 ∨ s = 1) :
    pureF f__law_after [formD [v0, v1, v2], stL [p0, p1, p2], .int s] S = .ok (.tup [stL (afterL [v0, v1, v2] [p0, p1, p2] s).1, oI (afterL [v0, v1, v2] [p0, p1, p2] s).2]) S := by
  refine pure_eq (by simp [lowL, low_form', low_prL, lowD, low_Lv, low_pL]) ?_
  obtain ⟨a0, b0⟩ := p0
  obtain ⟨a1, b1⟩ := p1
  obtain ⟨a2, b2⟩ := p2
  have hw : ∀ (v : Lv) a b S, pureF f__law_won [.tup [.int v.t, .int v.l, oI v.c], .int a, .int b] S = .ok (.bl (lwon v a b)) S := fun v a b S => t_law_won
  unfold f__law_after fn b__law_after
  rcases hs with rfl | rfl
  · cases h0 : lwon v0 (a0 + 1) b0 <;> cases h1 : lwon v1 (a1 + 1) b1 <;> cases h2 : lwon v2 (a2 + 1) b2 <;> (simp [prL, Lv.D, compL, kRng1, smallI, rngL, forL, hw, plusM, ownP, afterL, lwonP, h0, h1, h2]; rfl)
  · cases h0 : lwon v0 (b0 + 1) a0 <;> cases h1 : lwon v1 (b1 + 1) a1 <;> cases h2 : lwon v2 (b2 + 1) a2 <;> (simp [prL, Lv.D, compL, kRng1, smallI, rngL, forL, hw, plusM, ownP, afterL, lwonP, h0, h1, h2]; rfl)
theorem t_law_after {vs : List Lv} {st : List Pr} {s : Int} {S : Sto} (h1 : 1 ≤ vs.length) (h2 : vs.length ≤ 3) (h : st.length = vs.length) (hs : s = 0 ∨ s = 1) :
    pureF f__law_after [formD vs, stL st, .int s] S = .ok (.tup [stL (afterL vs st s).1, oI (afterL vs st s).2]) S := by
  match vs, st, h1, h2, h with
  | [v], [p], _, _, _ => exact t_law_after1 hs
  | [v, v2], [p, p2], _, _, _ => exact t_law_after2 hs
  | [v, v2, v3], [p, p2, p3], _, _, _ => exact t_law_after3 hs
  | v :: v2 :: v3 :: v4 :: vs, _, _, h, _ => simp at h
theorem afterL_len : ∀ (vs : List Lv) (st : List Pr) (s : Int), (afterL vs st s).1.length = st.length
  | [], st, s => by cases st <;> simp [afterL]
  | v :: vs, [], s => by simp [afterL]
  | v :: vs, p :: ps, s => by
    unfold afterL
    cases lwonP v (plusM p s) s with
    | false => simp
    | true =>
      cases vs with
      | nil => simp
      | cons v2 vs => simp [afterL_len (v2 :: vs) ps s]
def stepL (vs : List Lv) (x : Play) (s : Int) : Play := match x.w with
  | none => ⟨(afterL vs x.st s).1, (afterL vs x.st s).2, x.m + 1⟩
  | some _ => x
def playL (vs : List Lv) (rs : List Int) : Play := rs.foldl (stepL vs) (start vs)
theorem stepL_len {vs : List Lv} {x : Play} {s : Int} : (stepL vs x s).st.length = x.st.length := by
  unfold stepL; cases x.w with
  | none => simp [afterL_len]
  | some w => rfl
theorem foldL_len {vs : List Lv} : ∀ (rs : List Int) (x : Play), (rs.foldl (stepL vs) x).st.length = x.st.length
  | [], x => rfl
  | s :: rs, x => by rw [List.foldl_cons, foldL_len rs, stepL_len]

end Sf
end

section
set_option Elab.async false
set_option maxRecDepth 100000
set_option linter.all false
set_option maxHeartbeats 4000000
namespace Sf
open PySem L2
/-! the law's play, of a row that is a value or a place -/
def lplayB : FS := (sIf (tVal (fOp2 oIs (fVar 3) (fCon .non))) (sSeq (sAsgT [2, 3] (fCall (pureF f__law_after) (fCons (fVar 0) (fCons (fVar 2) (fCons (fVar 5) (fNil))))))
    (sAsg 4 (fOp2 (oAdd false) (fVar 4) (fCon (.int 1))))) (sSkip))
theorem t_law_playV {vs : List Lv} {rs : List Int} {row : D} {S : Sto} (h : Form vs) (hr : ∀ r ∈ rs, r = 0 ∨ r = 1) (hrow : row = rowD rs ∨ ∃ n, row = .loc n ∧ S[n]? = some (.lst (rs.map D.int))) :
    f__law_play [formD vs, row] S = .ok (.tup [oI (playL vs rs).w, .int (playL vs rs).m, stD (playL vs rs).st]) S := by
  have es : stL (start vs).st = .lst (vs.map fun _ => .lst [.int 0, .int 0]) := by unfold start stL; rw [List.map_const']; simp [prL]
  have c1 := comp_map Lv.D (fun _ => D.lst [.int 0, .int 0]) (fLst false (fCons (fCon (.int 0)) (fCons (fCon (.int 0)) (fNil)))) [formD vs, row, .und, .und, .und, .und, .und, .und] 6 S vs (fun a ha => by simp)
  have fv : fit vs.length = true := fit_of (by have := h.2.1; omega)
  have fs : fit (playL vs rs).st.length = true := fit_of (by unfold playL; rw [foldL_len]; simp [start]; have := h.2.1; omega)
  have key : ∃ z', sForD (fVar 1) (tgName 5) lplayB [formD vs, row, stL (start vs).st, .non, .int 0, .und, .und, .und] S = .nx [formD vs, row, stL (playL vs rs).st, oI (playL vs rs).w, .int (playL vs rs).m, z', .und, .und] S := by
    obtain ⟨env', S', e, i⟩ := forDP (a := fVar 1) (g := tgName 5) (b := lplayB) (enc := D.int) (L := rs) (x := row) (s := start vs) (step := stepL vs) (env := [formD vs, row, stL (start vs).st, .non, .int 0, .und, .und, .und]) (S := S)
      (inv := fun x env S' => S' = S ∧ x.st.length = vs.length ∧ ∃ z, env = [formD vs, row, stL x.st, oI x.w, .int x.m, z, .und, .und])
      (by rcases hrow with rfl | ⟨n, rfl, _⟩ <;> rfl)
      (by
        rcases hrow with e | ⟨n, e, hS⟩
        · exact .inl e
        · exact .inr ⟨n, e, fun s env S' h => by rw [h.1]; exact hS⟩)
      (fun pre s post e env S' hi => by
        obtain ⟨rfl, hl, z, rfl⟩ := hi
        generalize pre.foldl (stepL vs) (start vs) = x at hl
        have ea := t_law_after (s := s) (S := S') h.1 h.2.1 hl (hr s (by rw [e]; simp))
        refine ⟨[formD vs, row, stL x.st, oI x.w, .int x.m, .int s, .und, .und], [formD vs, row, stL (stepL vs x s).st, oI (stepL vs x s).w, .int (stepL vs x s).m, .int s, .und, .und], S', rfl, ?_, rfl, by rw [stepL_len]; exact hl, _, rfl⟩
        unfold lplayB stepL
        obtain ⟨st, w, m⟩ := x
        cases w with
        | none => simp [ea]
        | some w => simp)
      ⟨rfl, by simp [start], _, rfl⟩
    obtain ⟨rfl, _, z, rfl⟩ := i
    exact ⟨z, e⟩
  obtain ⟨z', key⟩ := key
  rw [es] at key
  have c2 := comp_map prL prD (fOpN (oTuple) (fCons (fVar 7) (fNil))) [formD vs, row, stL (playL vs rs).st, oI (playL vs rs).w, .int (playL vs rs).m, z', .und, .und] 7 S (playL vs rs).st (fun a ha => by simp [prL, prD])
  unfold f__law_play fn b__law_play
  change fnEnd false S.length (sSeq _ (sSeq (sForD (fVar 1) (tgName 5) lplayB) _) [formD vs, row, .und, .und, .und, .und, .und, .und] S) = _
  cases hw : (playL vs rs).w <;> rw [hw] at key c2 <;> simp only [oI_none, oI_some] at key c2 <;> rcases hrow with rfl | ⟨n, rfl, _⟩ <;> simp [c1, fv, fs, key, c2, end_rt]
theorem t_law_play {vs : List Lv} {rs : List Int} {S : Sto} (h : Form vs) (hr : ∀ r ∈ rs, r = 0 ∨ r = 1) :
    pureF f__law_play [formD vs, rowD rs] S = .ok (.tup [oI (playL vs rs).w, .int (playL vs rs).m, stD (playL vs rs).st]) S := by
  have hl : lowD 0 (rowD rs) = true := low_ints rs
  exact pure_eq (by simp only [lowL, low_form', hl]; rfl) (t_law_playV h hr (.inl rfl))

end Sf
end

section
set_option Elab.async false
set_option maxRecDepth 100000
set_option linter.all false
set_option maxHeartbeats 4000000
namespace Sf
open PySem L2
/-! plain: the program's play is the law's -/
def NT (v : Lv) (p : Pr) : Prop := ¬ (v.t ≤ p.1 ∧ v.l ≤ p.1 - p.2) ∧ ¬ (v.t ≤ p.2 ∧ v.l ≤ p.2 - p.1) ∧ ∀ c, v.c = some c → p.1 < c ∧ p.2 < c
theorem NT.zero {v : Lv} (h : v.Ok) : NT v (0, 0) := by
  obtain ⟨h1, h2, h3, h4, h5⟩ := h
  refine ⟨by simp; omega, by simp; omega, fun c hc => ?_⟩
  have := h5 c hc
  simp; omega
theorem NT.step {v : Lv} {p : Pr} {s : Int} (h : NT v p) (hl : 1 ≤ v.l) (hs : s = 0 ∨ s = 1) :
    rwM v (plusM p s) = (bif lwonP v (plusM p s) s then some s else none) ∧ (lwonP v (plusM p s) s = false → NT v (plusM p s)) := by
  obtain ⟨t, l, c⟩ := v
  obtain ⟨a, b⟩ := p
  obtain ⟨h1, h2, h3⟩ := h
  simp only at h1 h2 h3 hl
  rcases hs with rfl | rfl
  · cases c with
    | none =>
      simp only [plusM, lwonP, lwon, ownP, rwM, NT]
      by_cases g1 : t ≤ a + 1 <;> by_cases g2 : l ≤ a + 1 - b <;> by_cases g3 : b < a + 1 <;> simp [g1, g2, g3] <;> omega
    | some c =>
      have h3 := h3 c rfl
      simp only [plusM, lwonP, lwon, ownP, rwM, NT]
      by_cases g1 : t ≤ a + 1 <;> by_cases g2 : l ≤ a + 1 - b <;> by_cases g3 : b < a + 1 <;> by_cases g4 : a + 1 = c <;> simp [g1, g2, g3, g4] <;> first | omega | skip
  · cases c with
    | none =>
      simp only [plusM, lwonP, lwon, ownP, rwM, NT]
      by_cases g1 : t ≤ b + 1 <;> by_cases g2 : l ≤ b + 1 - a <;> by_cases g3 : b + 1 < a <;> simp [g1, g2, g3] <;> omega
    | some c =>
      have h3 := h3 c rfl
      simp only [plusM, lwonP, lwon, ownP, rwM, NT]
      by_cases g1 : t ≤ b + 1 <;> by_cases g2 : l ≤ b + 1 - a <;> by_cases g3 : b + 1 < a <;> by_cases g4 : b + 1 = c <;> simp [g1, g2, g3, g4] <;> first | omega | skip
def live : List Lv → List Pr → Prop
  | v :: vs, p :: ps => NT v p ∧ live vs ps
  | _, _ => True
theorem live.start : ∀ {vs : List Lv}, (∀ v ∈ vs, v.Ok) → live vs (List.replicate vs.length (0, 0))
  | [], _ => trivial
  | v :: vs, h => ⟨NT.zero (h v (by simp)), live.start fun v hv => h v (by simp [hv])⟩
theorem live.step : ∀ {vs : List Lv} {ps : List Pr} {s : Int}, live vs ps → (∀ v ∈ vs, v.Ok) → s = 0 ∨ s = 1 →
    afterM vs ps s = afterL vs ps s ∧ ((afterL vs ps s).2 = none → live vs (afterL vs ps s).1) ∧ ∀ w, (afterL vs ps s).2 = some w → w = s
  | [], ps, s, _, _, _ => by simp [afterM, afterL, live]
  | v :: vs, [], s, _, _, _ => by simp [afterM, afterL, live]
  | v :: vs, p :: ps, s, h, hv, hs => by
    obtain ⟨e, n⟩ := NT.step h.1 (hv v (by simp)).2.2.1 hs
    cases hw : lwonP v (plusM p s) s with
    | false =>
      rw [hw] at e n
      unfold afterM afterL
      rw [e, hw]
      exact ⟨rfl, fun _ => ⟨n rfl, h.2⟩, fun w hw => by cases hw⟩
    | true =>
      rw [hw] at e n
      cases vs with
      | nil =>
        unfold afterM afterL
        rw [e, hw]
        simp
      | cons v2 vs =>
        obtain ⟨i1, i2, i3⟩ := live.step (vs := v2 :: vs) h.2 (fun v hv' => hv v (by simp at hv' ⊢; exact .inr hv')) hs
        rw [afterM, afterL, e, hw]
        · simp only [cond_true, i1]
          exact ⟨trivial, fun hw => ⟨NT.zero (hv v (by simp)), i2 hw⟩, fun w hw => i3 w hw⟩
        all_goals (intro h; cases h)
/-- the play so far -/
structure Sofar (vs : List Lv) (rs : List Int) (x : Play) : Prop where
  no : x.w = none → x.m = rs.length ∧ live vs x.st
  yes : ∀ k, x.w = some k → 1 ≤ x.m ∧ x.m ≤ rs.length ∧ rs[(x.m - 1).toNat]? = some k ∧ (playM vs (rs.take (x.m - 1).toNat)).w = none
theorem playM_snoc {vs : List Lv} {rs : List Int} {s : Int} : playM vs (rs ++ [s]) = stepM vs (playM vs rs) s := by unfold playM; rw [List.foldl_append]; rfl
theorem playL_snoc {vs : List Lv} {rs : List Int} {s : Int} : playL vs (rs ++ [s]) = stepL vs (playL vs rs) s := by unfold playL; rw [List.foldl_append]; rfl
theorem sofar {vs : List Lv} (hv : ∀ v ∈ vs, v.Ok) : ∀ (n : Nat) (rs : List Int), rs.length = n → (∀ r ∈ rs, r = 0 ∨ r = 1) → playM vs rs = playL vs rs ∧ Sofar vs rs (playM vs rs)
  | 0, [], _, _ => ⟨rfl, ⟨fun _ => ⟨rfl, live.start hv⟩, fun k h => by cases h⟩⟩
  | n + 1, rs, hl, hr => by
    obtain ⟨ss, s, rfl⟩ : ∃ ss s, rs = ss ++ [s] := ⟨rs.dropLast, rs.getLast (by intro h; subst h; simp at hl), (List.dropLast_concat_getLast _).symm⟩
    have hs : s = 0 ∨ s = 1 := hr s (by simp)
    obtain ⟨e, I⟩ := sofar hv n ss (by simpa using hl) (fun r h => hr r (by simp [h]))
    rw [playM_snoc, playL_snoc, ← e]
    cases hw : (playM vs ss).w with
    | none =>
      obtain ⟨hm, lv⟩ := I.no hw
      obtain ⟨e2, l2, l3⟩ := live.step lv hv hs
      unfold stepM stepL
      rw [hw]
      simp only [e2]
      refine ⟨trivial, ⟨fun h => ⟨by simp [hm], l2 h⟩, fun k h => ?_⟩⟩
      have := l3 k h
      subst this
      simp only [hm]
      refine ⟨by omega, by simp, ?_, ?_⟩
      · rw [show ((ss.length : Int) + 1 - 1).toNat = ss.length by omega]; simp
      · rw [show ((ss.length : Int) + 1 - 1).toNat = ss.length by omega]; simp [hw]
    | some k =>
      obtain ⟨h1, h2, h3, h4⟩ := I.yes k hw
      unfold stepM stepL
      rw [hw]
      refine ⟨rfl, ⟨fun h => ?_, fun k' h => ?_⟩⟩
      · simp only [hw] at h; cases h
      · simp only [hw] at h; cases h
        refine ⟨h1, by simp; omega, ?_, ?_⟩
        · simp only
          rw [List.getElem?_append_left (by omega)]; exact h3
        · simp only
          rw [List.take_append_of_le_length (by omega)]; exact h4

end Sf
end

section
set_option Elab.async false
set_option maxRecDepth 100000
set_option linter.all false
set_option maxHeartbeats 4000000
namespace Sf
open PySem L2
/-! the points that a side needs -/
def othP (p : Pr) (s : Int) : Int := if s = 0 then p.2 else p.1
def need (v : Lv) (p : Pr) (s : Int) : Int := match v.c with
  | none => max (v.t - ownP p s) (v.l - ownP p s + othP p s)
  | some c => min (max (v.t - ownP p s) (v.l - ownP p s + othP p s)) (c - ownP p s)
def NN : List Lv → List Pr → Int → Int
  | v :: vs, p :: ps, s => need v p s + need v (0, 0) s * (NN vs ps s - 1)
  | _, _, _ => 1
theorem need_pos {v : Lv} {p : Pr} {s : Int} (h : NT v p) (hs : s = 0 ∨ s = 1) : 1 ≤ need v p s := by
  obtain ⟨t, l, c⟩ := v
  obtain ⟨a, b⟩ := p
  obtain ⟨h1, h2, h3⟩ := h
  simp only at h1 h2 h3
  cases c with
  | none => rcases hs with rfl | rfl <;> simp [need, ownP, othP] <;> omega
  | some c =>
    have h3 := h3 c rfl
    rcases hs with rfl | rfl <;> simp [need, ownP, othP] <;> omega
theorem need_step {v : Lv} {p : Pr} {s : Int} (hs : s = 0 ∨ s = 1) : need v (plusM p s) s = need v p s - 1 := by
  obtain ⟨t, l, c⟩ := v
  obtain ⟨a, b⟩ := p
  cases c <;> rcases hs with rfl | rfl <;> simp [need, ownP, othP, plusM] <;> omega
theorem need_won {v : Lv} {p : Pr} {s : Int} (h : NT v p) (hl : 1 ≤ v.l) (hs : s = 0 ∨ s = 1) : lwonP v (plusM p s) s = decide (need v p s = 1) := by
  obtain ⟨t, l, c⟩ := v
  obtain ⟨a, b⟩ := p
  obtain ⟨h1, h2, h3⟩ := h
  simp only at h1 h2 h3 hl
  cases c with
  | none => rcases hs with rfl | rfl <;> simp [need, ownP, othP, plusM, lwonP, lwon, ← Bool.decide_and] <;> omega
  | some c =>
    have h3 := h3 c rfl
    rcases hs with rfl | rfl <;> simp [need, ownP, othP, plusM, lwonP, lwon, ← Bool.decide_and, ← Bool.decide_or] <;> omega
theorem NN_pos : ∀ {vs : List Lv} {ps : List Pr} {s : Int}, live vs ps → (∀ v ∈ vs, v.Ok) → s = 0 ∨ s = 1 → 1 ≤ NN vs ps s
  | [], ps, s, _, _, _ => by simp [NN]
  | v :: vs, [], s, _, _, _ => by simp [NN]
  | v :: vs, p :: ps, s, h, hv, hs => by
    have h1 := need_pos h.1 hs
    have h2 := need_pos (NT.zero (hv v (by simp))) hs
    have h3 := NN_pos h.2 (fun v hv' => hv v (by simp [hv'])) hs
    unfold NN
    have : 0 ≤ need v (0, 0) s * (NN vs ps s - 1) := Int.mul_nonneg (by omega) (by omega)
    omega
/-- one more point: one less is needed -/
theorem NN_step : ∀ {vs : List Lv} {ps : List Pr} {s : Int}, live vs ps → (∀ v ∈ vs, v.Ok) → s = 0 ∨ s = 1 → 1 ≤ vs.length → ps.length = vs.length →
    ((afterL vs ps s).2 = none → NN vs (afterL vs ps s).1 s = NN vs ps s - 1) ∧ ((afterL vs ps s).2 = none ↔ 1 < NN vs ps s)
  | [], ps, s, _, _, _, h, _ => by simp at h
  | v :: vs, [], s, _, _, _, _, h => by simp at h
  | v :: vs, p :: ps, s, h, hv, hs, _, hl => by
    have hv0 := hv v (by simp)
    have h1 := need_pos h.1 hs
    have h2 := need_pos (NT.zero hv0) hs
    have hw := need_won h.1 hv0.2.2.1 hs
    have h3 := NN_pos h.2 (fun v hv' => hv v (by simp [hv'])) hs
    have h4 : 0 ≤ need v (0, 0) s * (NN vs ps s - 1) := Int.mul_nonneg (by omega) (by omega)
    by_cases hn : need v p s = 1
    · rw [decide_eq_true hn] at hw
      cases vs with
      | nil =>
        have e : afterL [v] (p :: ps) s = (plusM p s :: ps, some s) := by unfold afterL; rw [hw]; rfl
        rw [e]
        have e2 : NN [v] (p :: ps) s = need v p s + need v (0, 0) s * (1 - 1) := by simp [NN]
        rw [e2, hn]
        simp
      | cons v2 vs =>
        have e : afterL (v :: v2 :: vs) (p :: ps) s = ((0, 0) :: (afterL (v2 :: vs) ps s).1, (afterL (v2 :: vs) ps s).2) := by
          rw [afterL, hw]
          · rfl
          · intro h; cases h
        obtain ⟨i1, i2⟩ := NN_step (vs := v2 :: vs) h.2 (fun v hv' => hv v (by simp at hv' ⊢; exact .inr hv')) hs (by simp) (by simpa using hl)
        rw [e]
        have e1 : ∀ q qs, NN (v :: v2 :: vs) (q :: qs) s = need v q s + need v (0, 0) s * (NN (v2 :: vs) qs s - 1) := fun q qs => by rw [NN]
        rw [e1, e1]
        simp only
        refine ⟨fun hn' => ?_, ?_⟩
        · rw [i1 hn', hn]
          have : need v (0, 0) s * (NN (v2 :: vs) ps s - 1 - 1) = need v (0, 0) s * (NN (v2 :: vs) ps s - 1) - need v (0, 0) s := by rw [Int.mul_sub, Int.mul_one]
          omega
        · rw [i2, hn]
          constructor
          · intro g
            have : 0 < need v (0, 0) s * (NN (v2 :: vs) ps s - 1) := Int.mul_pos (by omega) (by omega)
            omega
          · intro g
            by_cases g2 : 1 < NN (v2 :: vs) ps s
            · exact g2
            · exfalso
              have e3 : NN (v2 :: vs) ps s - 1 = 0 := by omega
              rw [e3] at g; simp at g
    · rw [decide_eq_false hn] at hw
      have e : afterL (v :: vs) (p :: ps) s = (plusM p s :: ps, none) := by unfold afterL; rw [hw]; rfl
      rw [e]
      refine ⟨fun _ => ?_, ⟨fun _ => ?_, fun _ => rfl⟩⟩
      · simp only
        unfold NN
        rw [need_step hs]; omega
      · unfold NN; omega
/-- the pairs are not great -/
def Bnd (m : Int) (st : List Pr) : Prop := ∀ p ∈ st, 0 ≤ p.1 ∧ p.1 ≤ m ∧ 0 ≤ p.2 ∧ p.2 ≤ m
theorem Bnd.plus {m : Int} {p : Pr} {s : Int} (h : 0 ≤ p.1 ∧ p.1 ≤ m ∧ 0 ≤ p.2 ∧ p.2 ≤ m) : 0 ≤ (plusM p s).1 ∧ (plusM p s).1 ≤ m + 1 ∧ 0 ≤ (plusM p s).2 ∧ (plusM p s).2 ≤ m + 1 := by
  unfold plusM; split <;> simp <;> omega
theorem Bnd.mono {m n : Int} {st : List Pr} (h : Bnd m st) (hm : m ≤ n) : Bnd n st := fun p hp => by have := h p hp; omega
theorem Bnd.step {m : Int} (hm : 0 ≤ m) : ∀ {vs : List Lv} {ps : List Pr} {s : Int}, Bnd m ps → Bnd (m + 1) (afterL vs ps s).1
  | [], ps, s, h => by unfold afterL; exact h.mono (by omega)
  | v :: vs, [], s, h => by intro p hp; simp [afterL] at hp
  | v :: vs, p :: ps, s, h => by
    have hp := Bnd.plus (s := s) (h p (by simp))
    have ht : Bnd m ps := fun q hq => h q (by simp [hq])
    cases hw : lwonP v (plusM p s) s with
    | false =>
      have e : afterL (v :: vs) (p :: ps) s = (plusM p s :: ps, none) := by unfold afterL; rw [hw]; rfl
      rw [e]
      intro q hq
      rcases List.mem_cons.mp hq with rfl | hq
      · exact hp
      · have := ht q hq; omega
    | true =>
      cases vs with
      | nil =>
        have e : afterL [v] (p :: ps) s = (plusM p s :: ps, some s) := by unfold afterL; rw [hw]; rfl
        rw [e]
        intro q hq
        rcases List.mem_cons.mp hq with rfl | hq
        · exact hp
        · have := ht q hq; omega
      | cons v2 vs =>
        have e : afterL (v :: v2 :: vs) (p :: ps) s = ((0, 0) :: (afterL (v2 :: vs) ps s).1, (afterL (v2 :: vs) ps s).2) := by
          rw [afterL, hw]
          · rfl
          · intro h; cases h
        rw [e]
        intro q hq
        rcases List.mem_cons.mp hq with rfl | hq
        · simp; omega
        · exact Bnd.step hm ht q hq
theorem need_le {v : Lv} {p : Pr} {s m : Int} (hv : v.Ok) (hp : 0 ≤ p.1 ∧ p.1 ≤ m ∧ 0 ≤ p.2 ∧ p.2 ≤ m) : need v p s ≤ 5 + m := by
  obtain ⟨t, l, c⟩ := v
  obtain ⟨a, b⟩ := p
  obtain ⟨h1, h2, h3, h4, h5⟩ := hv
  simp only at h1 h2 h3 h4 h5 hp
  cases c with
  | none => simp only [need, ownP, othP]; split <;> omega
  | some c => simp only [need, ownP, othP]; split <;> omega
theorem NN_le {m : Int} (hm : 0 ≤ m) : ∀ {vs : List Lv} {ps : List Pr} {s : Int}, (∀ v ∈ vs, v.Ok) → live vs ps → s = 0 ∨ s = 1 → Bnd m ps → NN vs ps s ≤ (6 + m) * 6 ^ vs.length
  | [], ps, s, _, _, _, _ => by simp [NN]; omega
  | v :: vs, [], s, _, _, _, _ => by
    have : (1 : Int) ≤ (6 + m) * 6 ^ (v :: vs).length := by
      have : (0 : Int) < (6 + m) * 6 ^ (v :: vs).length := Int.mul_pos (by omega) (Int.pow_pos (by omega))
      omega
    simpa [NN] using this
  | v :: vs, p :: ps, s, hv, hl, hs, hb => by
    have h1 := need_le (s := s) (hv v (by simp)) (hb p (by simp))
    have h2 := need_le (s := s) (m := 0) (p := (0, 0)) (hv v (by simp)) (by simp)
    have h0 := need_pos (s := s) (NT.zero (hv v (by simp))) hs
    have h3 := NN_le hm (vs := vs) (ps := ps) (s := s) (fun v hv' => hv v (by simp [hv'])) hl.2 hs (fun q hq => hb q (by simp [hq]))
    have h4 := NN_pos hl.2 (fun v hv' => hv v (by simp [hv'])) hs
    have h5 : need v (0, 0) s * (NN vs ps s - 1) ≤ 5 * (NN vs ps s - 1) := Int.mul_le_mul_of_nonneg_right (by omega) (by omega)
    unfold NN
    rw [List.length_cons, Int.pow_succ, ← Int.mul_assoc]
    have h6 : (6 + m) ≤ (6 + m) * 6 ^ vs.length := by
      have : (1 : Int) ≤ 6 ^ vs.length := by have : (0 : Int) < 6 ^ vs.length := Int.pow_pos (by omega); omega
      calc (6 + m) = (6 + m) * 1 := by omega
        _ ≤ (6 + m) * 6 ^ vs.length := Int.mul_le_mul_of_nonneg_left this (by omega)
    omega

end Sf
end

section
set_option Elab.async false
set_option maxRecDepth 100000
set_option linter.all false
set_option maxHeartbeats 4000000
namespace Sf
open PySem L2
/-! matches: rows at whose last point the play ends; a form cut in two -/
def runL (vs : List Lv) (x : Play) (rs : List Int) : Play := rs.foldl (stepL vs) x
def zer (vs : List Lv) : List Pr := List.replicate vs.length (0, 0)
abbrev Sides (rs : List Int) : Prop := ∀ r ∈ rs, r = 0 ∨ r = 1
theorem runL_nil {vs : List Lv} {x : Play} : runL vs x [] = x := rfl
theorem runL_cons {vs : List Lv} {x : Play} {s : Int} {rs : List Int} : runL vs x (s :: rs) = runL vs (stepL vs x s) rs := rfl
theorem runL_app {vs : List Lv} {x : Play} {rs qs : List Int} : runL vs x (rs ++ qs) = runL vs (runL vs x rs) qs := List.foldl_append
theorem stepL_some {vs : List Lv} {x : Play} {s w : Int} (h : x.w = some w) : stepL vs x s = x := by unfold stepL; rw [h]
theorem stepL_none {vs : List Lv} {x : Play} {s : Int} (h : x.w = none) : stepL vs x s = ⟨(afterL vs x.st s).1, (afterL vs x.st s).2, x.m + 1⟩ := by unfold stepL; rw [h]
theorem runL_some {vs : List Lv} {x : Play} {w : Int} (h : x.w = some w) : ∀ rs : List Int, runL vs x rs = x
  | [] => rfl
  | s :: rs => by rw [runL_cons, stepL_some h, runL_some h rs]
theorem playL_run {vs : List Lv} {rs : List Int} : playL vs rs = runL vs ⟨zer vs, none, 0⟩ rs := rfl
theorem afterL_w : ∀ {vs : List Lv} {st : List Pr} {s w : Int}, (afterL vs st s).2 = some w → w = s
  | [], st, s, w, h => by cases st <;> simp [afterL] at h
  | v :: vs, [], s, w, h => by simp [afterL] at h
  | v :: vs, p :: ps, s, w, h => by
    unfold afterL at h
    cases hw : lwonP v (plusM p s) s with
    | false => rw [hw] at h; simp at h
    | true =>
      rw [hw] at h
      cases vs with
      | nil => simp at h; exact h.symm
      | cons v2 vs => simp at h; exact afterL_w h
theorem afterL_app : ∀ {F G : List Lv} {st ps : List Pr} {s : Int}, F ≠ [] → G ≠ [] → st.length = F.length →
    afterL (F ++ G) (st ++ ps) s = match (afterL F st s).2 with
      | none => ((afterL F st s).1 ++ ps, none)
      | some u => (zer F ++ (afterL G ps u).1, (afterL G ps u).2)
  | [], G, st, ps, s, h, _, _ => absurd rfl h
  | v :: F, G, [], ps, s, _, _, h => by simp at h
  | [v], g :: G, [p], ps, s, _, _, _ => by
    cases hw : lwonP v (plusM p s) s with
    | false => simp [afterL, hw]
    | true => simp [afterL, hw, zer]
  | [v], G, p :: q :: st, ps, s, _, _, h => by simp at h
  | [v], [], [p], ps, s, _, h, _ => absurd rfl h
  | v :: v2 :: F, G, p :: st, ps, s, _, hG, h => by
    have ih := afterL_app (F := v2 :: F) (G := G) (st := st) (ps := ps) (s := s) (by simp) hG (by simpa using h)
    cases hw : lwonP v (plusM p s) s with
    | false => simp [afterL, hw]
    | true =>
      have e1 : afterL (v :: v2 :: F) (p :: st) s = ((0, 0) :: (afterL (v2 :: F) st s).1, (afterL (v2 :: F) st s).2) := by
        rw [afterL, hw]
        · rfl
        · intro h; cases h
      have e2 : afterL ((v :: v2 :: F) ++ G) ((p :: st) ++ ps) s = ((0, 0) :: (afterL ((v2 :: F) ++ G) (st ++ ps) s).1, (afterL ((v2 :: F) ++ G) (st ++ ps) s).2) := by
        show afterL (v :: v2 :: (F ++ G)) (p :: (st ++ ps)) s = _
        rw [afterL, hw]
        · rfl
        · intro h; cases h
      rw [e1, e2, ih]
      cases hq : (afterL (v2 :: F) st s).2 with
      | none => simp [hq]
      | some u => simp [hq, zer, List.replicate_succ]
/-- the lower levels go on -/
theorem run_low {F G : List Lv} {ps : List Pr} (hF : F ≠ []) (hG : G ≠ []) : ∀ (rs : List Int) (st : List Pr) (m k : Int), st.length = F.length → (runL F ⟨st, none, k⟩ rs).w = none →
    runL (F ++ G) ⟨st ++ ps, none, m⟩ rs = ⟨(runL F ⟨st, none, k⟩ rs).st ++ ps, none, m + rs.length⟩
  | [], st, m, k, _, _ => by simp [runL_nil]
  | s :: rs, st, m, k, hl, h => by
    rw [runL_cons, stepL_none rfl] at h
    simp only at h
    cases hw : (afterL F st s).2 with
    | some w => rw [hw] at h; rw [runL_some rfl] at h; cases h
    | none =>
      rw [hw] at h
      have ea := afterL_app (s := s) (ps := ps) hF hG hl
      rw [hw] at ea
      rw [runL_cons, stepL_none rfl]
      simp only [ea]
      rw [run_low hF hG rs _ _ (k + 1) (by rw [afterL_len]; exact hl) h, runL_cons, stepL_none rfl]
      simp only [hw, List.length_cons]
      congr 1
      omega
/-- a row at whose last point the play ends -/
structure Mt (vs : List Lv) (s : Int) (rs : List Int) : Prop where
  w : (playL vs rs).w = some s
  b : (playL vs rs.dropLast).w = none
theorem Mt.ne {vs : List Lv} {s : Int} {rs : List Int} (h : Mt vs s rs) : rs ≠ [] := by
  rintro rfl
  have := h.w
  simp [playL, start] at this
theorem Mt.split {vs : List Lv} {s : Int} {rs : List Int} (h : Mt vs s rs) : rs = rs.dropLast ++ [s] := by
  have e := (List.dropLast_concat_getLast h.ne).symm
  have hw := h.w
  rw [e, playL_snoc, stepL_none h.b] at hw
  have := afterL_w hw
  rw [← this] at e
  exact e
theorem run_unit {F G : List Lv} {ps : List Pr} {u : Int} {rs : List Int} {m : Int} (hF : F ≠ []) (hG : G ≠ []) (h : Mt F u rs) :
    runL (F ++ G) ⟨zer F ++ ps, none, m⟩ rs = ⟨zer F ++ (afterL G ps u).1, (afterL G ps u).2, m + rs.length⟩ := by
  have e := h.split
  have hb := h.b
  rw [playL_run] at hb
  have hl := run_low (ps := ps) hF hG rs.dropLast (zer F) m 0 (by simp [zer]) hb
  have hw : (afterL F (runL F ⟨zer F, none, 0⟩ rs.dropLast).st u).2 = some u := by
    have := h.w
    rw [e, playL_snoc, stepL_none h.b] at this
    exact this
  have hz : (runL F ⟨zer F, none, 0⟩ rs.dropLast).st.length = F.length := by unfold runL; rw [foldL_len]; simp [zer]
  have ea := afterL_app (s := u) (ps := ps) hF hG hz
  rw [hw] at ea
  have hn := h.ne
  conv => lhs; rw [e]
  rw [runL_app, hl, runL_cons, stepL_none rfl, runL_nil]
  simp only [ea]
  congr 1
  have : rs.length = rs.dropLast.length + 1 := by
    rw [List.length_dropLast]
    have := List.length_pos_iff.mpr hn
    omega
  omega
/-- many units, one after another -/
theorem run_units {F G : List Lv} (hF : F ≠ []) (hG : G ≠ []) : ∀ (bs : List (List Int × Int)) (ps : List Pr) (w : Option Int) (m k : Int), (∀ b ∈ bs, Mt F b.2 b.1) →
    (runL (F ++ G) ⟨zer F ++ ps, w, m⟩ (bs.map (·.1)).flatten).st = zer F ++ (runL G ⟨ps, w, k⟩ (bs.map (·.2))).st ∧ (runL (F ++ G) ⟨zer F ++ ps, w, m⟩ (bs.map (·.1)).flatten).w = (runL G ⟨ps, w, k⟩ (bs.map (·.2))).w
  | [], ps, w, m, k, _ => ⟨rfl, rfl⟩
  | b :: bs, ps, some w, m, k, _ => by rw [runL_some rfl, runL_some rfl]; exact ⟨rfl, rfl⟩
  | b :: bs, ps, none, m, k, h => by
    rw [List.map_cons, List.map_cons, List.flatten_cons, runL_app, run_unit hF hG (h b (by simp)), runL_cons, stepL_none rfl]
    exact run_units hF hG bs _ _ _ _ fun b hb => h b (by simp [hb])
/-- a row cut into units of the lower levels, and what is left -/
def cutU (F : List Lv) : List Int → List (List Int × Int) × List Int
  | rs => rs.foldl (fun x s => match (playL F (x.2 ++ [s])).w with
    | some u => (x.1 ++ [(x.2 ++ [s], u)], [])
    | none => (x.1, x.2 ++ [s])) ([], [])
theorem cutU_nil {F : List Lv} : cutU F [] = ([], []) := rfl
theorem cutU_snoc {F : List Lv} {rs : List Int} {s : Int} : cutU F (rs ++ [s]) = match (playL F ((cutU F rs).2 ++ [s])).w with
    | some u => ((cutU F rs).1 ++ [((cutU F rs).2 ++ [s], u)], [])
    | none => ((cutU F rs).1, (cutU F rs).2 ++ [s]) := by unfold cutU; rw [List.foldl_append]; rfl
theorem snoc_ind {α : Type} {P : List α → Prop} (h0 : P []) (h1 : ∀ l a, P l → P (l ++ [a])) (l : List α) : P l := by
  have : ∀ n (l : List α), l.length = n → P l := by
    intro n
    induction n with
    | zero => intro l hl; rw [List.eq_nil_of_length_eq_zero hl]; exact h0
    | succ n ih =>
      intro l hl
      have hne : l ≠ [] := by intro h; subst h; simp at hl
      rw [← List.dropLast_concat_getLast hne]
      exact h1 _ _ (ih _ (by rw [List.length_dropLast]; omega))
  exact this _ l rfl
structure CutOk (F : List Lv) (rs : List Int) (x : List (List Int × Int) × List Int) : Prop where
  e : rs = (x.1.map (·.1)).flatten ++ x.2
  u : ∀ b ∈ x.1, Mt F b.2 b.1
  p : (playL F x.2).w = none
theorem cutU_ok {F : List Lv} (rs : List Int) : CutOk F rs (cutU F rs) := by
  induction rs using snoc_ind with
  | h0 => exact ⟨rfl, by simp [cutU_nil], rfl⟩
  | h1 rs s ih =>
    rw [cutU_snoc]
    cases hw : (playL F ((cutU F rs).2 ++ [s])).w with
    | none => exact ⟨by simp only; rw [← List.append_assoc, ← ih.e], ih.u, hw⟩
    | some u =>
      refine ⟨?_, fun b hb => ?_, rfl⟩
      · simp only [List.map_append, List.map_cons, List.map_nil, List.flatten_append, List.flatten_cons, List.flatten_nil, List.append_nil]
        rw [← List.append_assoc, ← ih.e]
      · rcases List.mem_append.mp hb with hb | hb
        · exact ih.u b hb
        · simp at hb; subst hb
          exact ⟨hw, by simpa using ih.p⟩
/-- the play of a form cut in two -/
theorem play_cut {F G : List Lv} (hF : F ≠ []) (hG : G ≠ []) (rs : List Int) :
    (playL (F ++ G) rs).w = (playL G ((cutU F rs).1.map (·.2))).w ∧ ((playL G ((cutU F rs).1.map (·.2))).w = none → (playL (F ++ G) rs).st = (playL F (cutU F rs).2).st ++ (playL G ((cutU F rs).1.map (·.2))).st) := by
  have c := cutU_ok (F := F) rs
  have hz : zer (F ++ G) = zer F ++ zer G := by unfold zer; rw [List.length_append, List.replicate_append_replicate]
  obtain ⟨e1, e2⟩ := run_units hF hG (cutU F rs).1 (zer G) none 0 0 c.u
  have e0 : playL (F ++ G) rs = runL (F ++ G) (runL (F ++ G) ⟨zer F ++ zer G, none, 0⟩ ((cutU F rs).1.map (·.1)).flatten) (cutU F rs).2 := by
    conv => lhs; rw [c.e]
    rw [playL_run, hz, runL_app]
  rw [← playL_run] at e1 e2
  cases hw : (playL G ((cutU F rs).1.map (·.2))).w with
  | some w =>
    rw [hw] at e2
    refine ⟨?_, fun h => by cases h⟩
    rw [e0, runL_some e2, e2]
  | none =>
    rw [hw] at e2
    have hp := c.p
    rw [playL_run] at hp
    obtain ⟨x, hx⟩ : ∃ x, runL (F ++ G) ⟨zer F ++ zer G, none, 0⟩ ((cutU F rs).1.map (·.1)).flatten = x := ⟨_, rfl⟩
    rw [hx] at e1 e2 e0
    obtain ⟨st, w, m⟩ := x
    simp only at e1 e2
    subst e1 e2
    have := run_low (ps := (playL G ((cutU F rs).1.map (·.2))).st) hF hG (cutU F rs).2 (zer F) m 0 (by simp [zer]) hp
    rw [e0, this]
    exact ⟨rfl, fun _ => rfl⟩
theorem cutU_of {F : List Lv} : ∀ (bs : List (List Int × Int)), (∀ b ∈ bs, Mt F b.2 b.1) → ∀ part : List Int, (playL F part).w = none → cutU F ((bs.map (·.1)).flatten ++ part) = (bs, part) := by
  have pre : ∀ (l l2 : List Int), (playL F (l ++ l2)).w = none → (playL F l).w = none := by
    intro l l2 h
    cases hw : (playL F l).w with
    | none => rfl
    | some w =>
      rw [playL_run, runL_app, ← playL_run, runL_some hw, hw] at h
      cases h
  have tail : ∀ (rs : List Int) (bs : List (List Int × Int)), cutU F rs = (bs, []) → ∀ part : List Int, (playL F part).w = none → cutU F (rs ++ part) = (bs, part) := by
    intro rs bs h part
    induction part using snoc_ind with
    | h0 => intro _; simpa using h
    | h1 part s ih =>
      intro hp
      have hq := pre _ _ hp
      rw [← List.append_assoc, cutU_snoc, ih hq]
      simp only
      rw [hp]
  intro bs
  induction bs using snoc_ind with
  | h0 => intro _ part hp; exact tail [] [] rfl part hp
  | h1 bs b ih =>
    intro h part hp
    refine tail _ _ ?_ part hp
    have hb := h b (by simp)
    have i := ih (fun b hb => h b (by simp [hb])) b.1.dropLast hb.b
    have e := hb.split
    simp only [List.map_append, List.map_cons, List.map_nil, List.flatten_append, List.flatten_cons, List.flatten_nil, List.append_nil]
    rw [e, ← List.append_assoc, cutU_snoc, i]
    simp only
    rw [← e, hb.w]
theorem play_pre {F : List Lv} {l l2 : List Int} (h : (playL F (l ++ l2)).w = none) : (playL F l).w = none := by
  cases hw : (playL F l).w with
  | none => rfl
  | some w =>
    rw [playL_run, runL_app, ← playL_run, runL_some hw, hw] at h
    cases h
/-- units that are a match make a match -/
theorem Mt.join {F G : List Lv} {s : Int} {bs : List (List Int × Int)} (hF : F ≠ []) (hG : G ≠ []) (hb : ∀ b ∈ bs, Mt F b.2 b.1) (h : Mt G s (bs.map (·.2))) : Mt (F ++ G) s (bs.map (·.1)).flatten := by
  have hne : bs ≠ [] := by rintro rfl; exact h.ne rfl
  have e := (List.dropLast_concat_getLast hne).symm
  obtain ⟨cs, b, rfl⟩ : ∃ cs b, bs = cs ++ [b] := ⟨_, _, e⟩
  have hbb := hb b (by simp)
  refine ⟨?_, ?_⟩
  · have c := cutU_of (cs ++ [b]) hb [] rfl
    rw [List.append_nil] at c
    rw [(play_cut hF hG _).1, c]
    exact h.w
  · have e1 : ((cs ++ [b]).map (·.1)).flatten.dropLast = (cs.map (·.1)).flatten ++ b.1.dropLast := by
      simp only [List.map_append, List.map_cons, List.map_nil, List.flatten_append, List.flatten_cons, List.flatten_nil, List.append_nil]
      rw [List.dropLast_append_of_ne_nil hbb.ne]
    rw [e1, (play_cut hF hG _).1, cutU_of cs (fun b hb' => hb b (by simp [hb'])) _ hbb.b]
    have := h.b
    simpa using this
/-- a match is units that are a match -/
theorem Mt.cut {F G : List Lv} {s : Int} {rs : List Int} (hF : F ≠ []) (hG : G ≠ []) (h : Mt (F ++ G) s rs) : ∃ bs : List (List Int × Int), rs = (bs.map (·.1)).flatten ∧ (∀ b ∈ bs, Mt F b.2 b.1) ∧ Mt G s (bs.map (·.2)) := by
  have hw := h.w
  have hb := h.b
  have e := h.split
  rw [(play_cut hF hG _).1] at hw hb
  have c := cutU_ok (F := F) rs
  have c' := cutU_ok (F := F) rs.dropLast
  have es : cutU F rs = match (playL F ((cutU F rs.dropLast).2 ++ [s])).w with
    | some u => ((cutU F rs.dropLast).1 ++ [((cutU F rs.dropLast).2 ++ [s], u)], [])
    | none => ((cutU F rs.dropLast).1, (cutU F rs.dropLast).2 ++ [s]) := by
    conv => lhs; rw [e]
    exact cutU_snoc
  cases hu : (playL F ((cutU F rs.dropLast).2 ++ [s])).w with
  | none =>
    rw [hu] at es
    rw [es] at hw
    simp only at hw
    rw [hb] at hw; cases hw
  | some u =>
    rw [hu] at es
    refine ⟨(cutU F rs).1, ?_, c.u, hw, ?_⟩
    · have := c.e
      rw [es] at this ⊢
      simpa using this
    · rw [es]
      simpa using hb

end Sf
end

section
set_option Elab.async false
set_option maxRecDepth 100000
set_option linter.all false
set_option maxHeartbeats 4000000
namespace Sf
open PySem L2
/-! one level: what ends it; the least and most units -/
structure RL (v : Lv) (p : Pr) : Prop where
  a : 0 ≤ p.1
  b : 0 ≤ p.2
  nt : NT v p
  one : v.l = 1 → p.1 < v.t ∧ p.2 < v.t
theorem RL.zero {v : Lv} (h : v.Ok) : RL v (0, 0) := ⟨by simp, by simp, NT.zero h, fun _ => by have := h.1; simp; omega⟩
theorem RL.step {v : Lv} {p : Pr} {s : Int} (h : RL v p) (hv : v.Ok) (hs : s = 0 ∨ s = 1) (hw : lwonP v (plusM p s) s = false) : RL v (plusM p s) := by
  obtain ⟨h1, h2, h3, h4⟩ := h
  refine ⟨?_, ?_, (NT.step h3 hv.2.2.1 hs).2 hw, fun hl => ?_⟩
  · unfold plusM; split <;> simp <;> omega
  · unfold plusM; split <;> simp <;> omega
  · have h4 := h4 hl
    obtain ⟨t, l, c⟩ := v
    simp only at hl h4
    subst hl
    rcases hs with rfl | rfl
    · simp [lwonP, lwon, plusM, ownP] at hw ⊢
      have := hw.1; omega
    · simp [lwonP, lwon, plusM, ownP] at hw ⊢
      have := hw.1; omega
def cntP (rs : List Int) : Pr := ((rs.count 0 : Nat), (rs.count 1 : Nat))
theorem cntP_snoc {rs : List Int} {s : Int} (hs : s = 0 ∨ s = 1) : cntP (rs ++ [s]) = plusM (cntP rs) s := by
  rcases hs with rfl | rfl <;> simp [cntP, plusM, List.count_append]
theorem one_play {v : Lv} (hv : v.Ok) (rs : List Int) (hs : Sides rs) (h : (playL [v] rs).w = none) : (playL [v] rs).st = [cntP rs] ∧ RL v (cntP rs) := by
  induction rs using snoc_ind with
  | h0 => exact ⟨rfl, RL.zero hv⟩
  | h1 rs s ih =>
    have hp := play_pre h
    obtain ⟨e, r⟩ := ih (fun r hr => hs r (by simp [hr])) hp
    have s1 : s = 0 ∨ s = 1 := hs s (by simp)
    rw [playL_snoc, stepL_none hp, e] at h ⊢
    rw [cntP_snoc s1]
    cases hw : lwonP v (plusM (cntP rs) s) s with
    | true => simp [afterL, hw] at h
    | false => exact ⟨by simp [afterL, hw], r.step hv s1 hw⟩
theorem Mt.sides {vs : List Lv} {s : Int} {rs : List Int} (h : Mt vs s rs) (hs : Sides rs) : s = 0 ∨ s = 1 := hs s (by rw [h.split]; simp)
/-- how a round ends -/
theorem Mt.one {v : Lv} {s : Int} {rs : List Int} (hv : v.Ok) (hs : Sides rs) (h : Mt [v] s rs) : RL v (cntP rs.dropLast) ∧ lwonP v (plusM (cntP rs.dropLast) s) s = true ∧ cntP rs = plusM (cntP rs.dropLast) s := by
  have s1 := h.sides hs
  have e := h.split
  have hd : Sides rs.dropLast := fun r hr => hs r ((List.dropLast_sublist rs).subset hr)
  obtain ⟨e1, r⟩ := one_play hv rs.dropLast hd h.b
  refine ⟨r, ?_, by conv => lhs; rw [e]
                    exact cntP_snoc s1⟩
  have hw := h.w
  rw [e, playL_snoc, stepL_none h.b, e1] at hw
  cases hq : lwonP v (plusM (cntP rs.dropLast) s) s with
  | true => rfl
  | false => simp [afterL, hq] at hw
theorem cnt_len {rs : List Int} (hs : Sides rs) : (rs.length : Int) = (cntP rs).1 + (cntP rs).2 := by
  induction rs using snoc_ind with
  | h0 => rfl
  | h1 rs s ih =>
    have i := ih fun r hr => hs r (by simp [hr])
    have s1 : s = 0 ∨ s = 1 := hs s (by simp)
    rw [cntP_snoc s1, List.length_append, Int.natCast_add, i]
    rcases s1 with rfl | rfl <;> simp [plusM] <;> omega
def leastU (v : Lv) : Int := match v.c with
  | none => max v.t v.l
  | some c => min (max v.t v.l) c
def mostU (v : Lv) : Option Int := if v.l = 1 then some (2 * v.t - 1) else match v.c with
  | none => none
  | some c => some (2 * c - 1)
theorem leastU_le {v : Lv} {s : Int} {rs : List Int} (hv : v.Ok) (hs : Sides rs) (h : Mt [v] s rs) : leastU v ≤ rs.length := by
  obtain ⟨r, w, e⟩ := h.one hv hs
  rw [cnt_len hs, e]
  have s1 := h.sides hs
  obtain ⟨h1, h2, h3, h4⟩ := r
  generalize cntP rs.dropLast = p at h1 h2 h3 h4 w
  obtain ⟨a, b⟩ := p
  obtain ⟨t, l, c⟩ := v
  simp only at h1 h2
  cases c with
  | none => rcases s1 with rfl | rfl <;> simp [lwonP, lwon, plusM, ownP] at w <;> simp [leastU, plusM] <;> omega
  | some c => rcases s1 with rfl | rfl <;> simp [lwonP, lwon, plusM, ownP] at w <;> simp [leastU, plusM] <;> omega
theorem le_mostU {v : Lv} {s m : Int} {rs : List Int} (hv : v.Ok) (hs : Sides rs) (h : Mt [v] s rs) (hm : mostU v = some m) : rs.length ≤ m := by
  obtain ⟨r, w, e⟩ := h.one hv hs
  rw [cnt_len hs, e]
  have s1 := h.sides hs
  obtain ⟨h1, h2, h3, h4⟩ := r
  generalize cntP rs.dropLast = p at h1 h2 h3 h4 w
  obtain ⟨a, b⟩ := p
  obtain ⟨t, l, c⟩ := v
  simp only at h1 h2 h4
  unfold mostU at hm
  simp only at hm
  by_cases hl : l = 1
  · rw [if_pos hl] at hm
    have := h4 hl
    cases hm
    rcases s1 with rfl | rfl <;> simp [plusM] <;> omega
  · rw [if_neg hl] at hm
    cases c with
    | none => cases hm
    | some c =>
      cases hm
      have := h3.2.2 c rfl
      simp only at this
      rcases s1 with rfl | rfl <;> simp [plusM] <;> omega
def leastM : List Lv → Int
  | [] => 1
  | v :: vs => leastU v * leastM vs
def mostM : List Lv → Option Int
  | [] => some 1
  | v :: vs => match mostU v, mostM vs with
    | some a, some b => some (a * b)
    | _, _ => none
theorem leastU_pos {v : Lv} (hv : v.Ok) : 1 ≤ leastU v := by
  obtain ⟨t, l, c⟩ := v
  obtain ⟨h1, h2, h3, h4, h5⟩ := hv
  simp only at h1 h2 h3 h4 h5
  cases c with
  | none => simp [leastU]; omega
  | some c => have := h5 c rfl; simp [leastU]; omega
theorem flat_ge {lo : Int} : ∀ {bs : List (List Int × Int)}, (∀ b ∈ bs, lo ≤ b.1.length) → lo * bs.length ≤ ((bs.map (·.1)).flatten.length : Int)
  | [], _ => by simp
  | b :: bs, h => by
    have := flat_ge (lo := lo) (bs := bs) fun b hb => h b (by simp [hb])
    have := h b (by simp)
    simp only [List.map_cons, List.flatten_cons, List.length_append, List.length_cons, Int.natCast_add]
    rw [Int.mul_add]
    simp only [Int.cast_ofNat_Int, Int.mul_one]
    omega
theorem flat_le {hi : Int} : ∀ {bs : List (List Int × Int)}, (∀ b ∈ bs, (b.1.length : Int) ≤ hi) → ((bs.map (·.1)).flatten.length : Int) ≤ hi * bs.length
  | [], _ => by simp
  | b :: bs, h => by
    have := flat_le (hi := hi) (bs := bs) fun b hb => h b (by simp [hb])
    have := h b (by simp)
    simp only [List.map_cons, List.flatten_cons, List.length_append, List.length_cons, Int.natCast_add]
    rw [Int.mul_add]
    simp only [Int.cast_ofNat_Int, Int.mul_one]
    omega
theorem sides_cut {bs : List (List Int × Int)} (hs : Sides (bs.map (·.1)).flatten) : ∀ b ∈ bs, Sides b.1 := fun b hb r hr => hs r (List.mem_flatten.mpr ⟨b.1, List.mem_map.mpr ⟨b, hb, rfl⟩, hr⟩)
theorem sides_snd {F : List Lv} {bs : List (List Int × Int)} (hs : ∀ b ∈ bs, Sides b.1) (hb : ∀ b ∈ bs, Mt F b.2 b.1) : Sides (bs.map (·.2)) := fun r hr => by
  obtain ⟨b, h, rfl⟩ := List.mem_map.mp hr
  exact (hb b h).sides (hs b h)
/-- no match is shorter -/
theorem Mt.ge : ∀ {vs : List Lv} {s : Int} {rs : List Int}, vs ≠ [] → (∀ v ∈ vs, v.Ok) → Sides rs → Mt vs s rs → leastM vs ≤ rs.length
  | [], _, _, h, _, _, _ => absurd rfl h
  | [v], s, rs, _, hv, hs, h => by
    have := leastU_le (hv v (by simp)) hs h
    simpa [leastM] using this
  | v :: v2 :: vs, s, rs, _, hv, hs, h => by
    obtain ⟨bs, rfl, hb, hm⟩ := Mt.cut (F := [v]) (G := v2 :: vs) (by simp) (by simp) h
    have sb := sides_cut hs
    have i := Mt.ge (vs := v2 :: vs) (by simp) (fun v hv' => hv v (by simp at hv' ⊢; exact .inr hv')) (sides_snd sb hb) hm
    have f := flat_ge fun b hb' => leastU_le (hv v (by simp)) (sb b hb') (hb b hb')
    have := leastU_pos (hv v (by simp))
    rw [List.length_map] at i
    have : leastU v * leastM (v2 :: vs) ≤ leastU v * bs.length := Int.mul_le_mul_of_nonneg_left i (by omega)
    show leastU v * leastM (v2 :: vs) ≤ _
    omega
/-- no match is longer -/
theorem Mt.le : ∀ {vs : List Lv} {s m : Int} {rs : List Int}, vs ≠ [] → (∀ v ∈ vs, v.Ok) → Sides rs → Mt vs s rs → mostM vs = some m → rs.length ≤ m
  | [], _, _, _, h, _, _, _, _ => absurd rfl h
  | [v], s, m, rs, _, hv, hs, h, hm => by
    unfold mostM at hm
    cases hq : mostU v with
    | none => rw [hq] at hm; cases hm
    | some a =>
      rw [hq] at hm
      simp [mostM] at hm
      subst hm
      exact le_mostU (hv v (by simp)) hs h hq
  | v :: v2 :: vs, s, m, rs, _, hv, hs, h, hm => by
    obtain ⟨bs, rfl, hb, hmt⟩ := Mt.cut (F := [v]) (G := v2 :: vs) (by simp) (by simp) h
    have sb := sides_cut hs
    rw [mostM] at hm
    cases hq : mostU v with
    | none => rw [hq] at hm; cases hm
    | some a =>
      cases hq2 : mostM (v2 :: vs) with
      | none => rw [hq, hq2] at hm; cases hm
      | some b =>
        rw [hq, hq2] at hm
        cases hm
        have i := Mt.le (vs := v2 :: vs) (by simp) (fun v hv' => hv v (by simp at hv' ⊢; exact .inr hv')) (sides_snd sb hb) hmt hq2
        have f := flat_le fun b hb' => le_mostU (hv v (by simp)) (sb b hb') (hb b hb') hq
        rw [List.length_map] at i
        have : a * bs.length ≤ a * b := Int.mul_le_mul_of_nonneg_left i (by
          unfold mostU at hq
          have := hv v (by simp)
          obtain ⟨h1, h2, h3, h4, h5⟩ := this
          split at hq
          · cases hq; omega
          · cases hc : v.c with
            | none => rw [hc] at hq; cases hq
            | some c => rw [hc] at hq; cases hq; have := h5 c hc; omega)
        omega
/-- a row made of rows, level by level; the last level first -/
def ptsB (r : Lv → Int → List Int) : List Lv → Int → List Int
  | [], s => [s]
  | v :: vs, s => ((r v s).map (ptsB r vs)).flatten
theorem ptsB_sides {r : Lv → Int → List Int} : ∀ {vs : List Lv} {s : Int}, (∀ v ∈ vs, ∀ s, s = 0 ∨ s = 1 → Sides (r v s)) → s = 0 ∨ s = 1 → Sides (ptsB r vs s)
  | [], s, _, hs => fun q hq => by simp [ptsB] at hq; subst hq; exact hs
  | v :: vs, s, h, hs => fun q hq => by
    simp only [ptsB, List.mem_flatten, List.mem_map] at hq
    obtain ⟨l, ⟨u, hu, rfl⟩, hq⟩ := hq
    exact ptsB_sides (fun v hv => h v (by simp [hv])) (h v (by simp) s hs u hu) q hq
theorem ptsB_mt {r : Lv → Int → List Int} : ∀ {vs : List Lv} {s : Int}, vs ≠ [] → (∀ v ∈ vs, ∀ s, s = 0 ∨ s = 1 → Mt [v] s (r v s) ∧ Sides (r v s)) → s = 0 ∨ s = 1 → Mt vs.reverse s (ptsB r vs s)
  | [], _, h, _, _ => absurd rfl h
  | [v], s, _, h, hs => by
    have e : ptsB r [v] s = r v s := by
      simp only [ptsB]
      generalize r v s = l
      induction l with
      | nil => rfl
      | cons a l ih => simpa using ih
    rw [e]
    exact (h v (by simp) s hs).1
  | v :: v2 :: vs, s, _, h, hs => by
    have ih := fun u (hu : u = 0 ∨ u = 1) => ptsB_mt (vs := v2 :: vs) (s := u) (by simp) (fun v hv => h v (by simp at hv ⊢; exact .inr hv)) hu
    obtain ⟨h1, h2⟩ := h v (by simp) s hs
    have j := Mt.join (F := (v2 :: vs).reverse) (G := [v]) (bs := (r v s).map fun u => (ptsB r (v2 :: vs) u, u)) (by simp) (by simp) (fun b hb => by
      obtain ⟨u, hu, rfl⟩ := List.mem_map.mp hb
      exact ih u (h2 u hu)) (by rw [List.map_map]; simpa [Function.comp_def] using h1)
    rw [List.map_map] at j
    rw [List.reverse_cons]
    exact j
theorem ptsB_len {r : Lv → Int → List Int} {n : Lv → Nat} : ∀ {vs : List Lv} {s : Int}, (∀ v ∈ vs, ∀ s, s = 0 ∨ s = 1 → (r v s).length = n v ∧ Sides (r v s)) → s = 0 ∨ s = 1 → (ptsB r vs s).length = (vs.map n).foldr (· * ·) 1
  | [], s, _, _ => rfl
  | v :: vs, s, h, hs => by
    obtain ⟨h1, h2⟩ := h v (by simp) s hs
    have ih := fun u (hu : u = 0 ∨ u = 1) => ptsB_len (vs := vs) (s := u) (n := n) (fun v hv => h v (by simp [hv])) hu
    simp only [ptsB, List.map_cons, List.foldr_cons]
    rw [← h1]
    generalize r v s = l at h2
    clear h1
    induction l with
    | nil => simp
    | cons a l ih2 =>
      rw [List.map_cons, List.flatten_cons, List.length_append, ih2 fun r hr => h2 r (by simp [hr]), ih a (h2 a (by simp)), List.length_cons, Nat.add_mul, Nat.one_mul, Nat.add_comm]

end Sf
end

section
set_option Elab.async false
set_option maxRecDepth 100000
set_option linter.all false
set_option maxHeartbeats 4000000
namespace Sf
open PySem L2
def Lv.okB (v : Lv) : Bool := decide (1 ≤ v.t) && decide (v.t ≤ 5) && decide (1 ≤ v.l) && decide (v.l ≤ 3) && (match v.c with
  | none => true
  | some c => decide (v.t ≤ c) && decide (c ≤ 9))
theorem Lv.ok_of {v : Lv} (h : v.okB = true) : v.Ok := by
  obtain ⟨t, l, c⟩ := v
  unfold Lv.okB at h
  simp only [Bool.and_eq_true, decide_eq_true_eq] at h
  obtain ⟨⟨⟨⟨h1, h2⟩, h3⟩, h4⟩, h5⟩ := h
  refine ⟨h1, h2, h3, h4, fun k hk => ?_⟩
  simp only at hk
  subst hk
  simpa using h5
def formB (vs : List Lv) : Bool := Nat.ble 1 vs.length && Nat.ble vs.length 3 && vs.all Lv.okB
theorem form_of {vs : List Lv} (h : formB vs = true) : Form vs := by
  unfold formB at h
  rw [Bool.and_eq_true, Bool.and_eq_true] at h
  exact ⟨Nat.le_of_ble_eq_true h.1.1, Nat.le_of_ble_eq_true h.1.2, fun v hv => Lv.ok_of (List.all_eq_true.mp h.2 v hv)⟩

end Sf
end

section
set_option Elab.async false
set_option maxRecDepth 100000
set_option linter.all false
set_option maxHeartbeats 4000000
namespace Sf
open PySem L2
/-! rows as lists: times, sum, count, cuts -/
@[simp] theorem x_meth {g : OpM} {fo : FE} {fs : FA} {env : En} {S : Sto} : fMethL g fo fs env S = (fo env S).bind fun o S1 => bif isLs o S1 then (fs env S1).bind fun xs S2 => outO (g o xs S2) else .bad := rfl
@[simp] theorem x_op1r {o : Op1} {a : FE} {env : En} {S : Sto} : fOp1 o a env S = (a env S).bind fun x S1 => outO (o x S1) := rfl
@[simp] theorem x_isLs {l : List D} {S : Sto} : isLs (.lst l) S = true := rfl
theorem mul_s {m : Bool} {i j : Int} {S : Sto} (h : mulOk i j = true) : oMul m (.int i) (.int j) S = some (.int (i * j), S) := by rw [x_mul, h]; rfl
theorem mul_small {i j : Int} {S : Sto} (h : -1000 ≤ i) (h' : i ≤ 1000) : oMul false (.int i) (.int j) S = some (.int (i * j), S) := mul_l (nat_blt (by omega))
theorem flat_map {l : List Int} : ∀ n : Nat, (List.replicate n (l.map D.int)).flatten = ((List.replicate n l).flatten).map D.int
  | 0 => rfl
  | n + 1 => by rw [List.replicate_succ, List.flatten_cons, flat_map n, List.replicate_succ, List.flatten_cons, List.map_append]
theorem mul_row {l : List Int} {k : Int} {S : Sto} (h0 : 0 ≤ k) (h1 : k ≤ 1000) (h2 : l.length ≤ 1000) : oMul false (rowD l) (.int k) S = some (rowD (List.replicate k.toNat l).flatten, S) := by
  have hz : (l.map D.int).length * k.toNat ≤ 16777216 := by
    rw [List.length_map]
    have : l.length * k.toNat ≤ 1000 * 1000 := Nat.mul_le_mul h2 (by omega)
    omega
  show (match lsW (rowD l) S with
    | some l => bif decide (-1000000 ≤ k) && decide (k ≤ 1000000) && fit (l.length * k.toNat) then mkL false (List.replicate k.toNat l).flatten S else none
    | none => none) = _
  simp only [lsW]
  rw [decide_eq_true (by omega), decide_eq_true (by omega), fit_of hz, flat_map, x_mkF, fit_of (by rw [List.length_map, PyProof.Rows.lm_len_rep_flat, Nat.mul_comm]; rw [List.length_map] at hz; exact hz)]; rfl
theorem add_row {l m : List Int} {S : Sto} (h : l.length + m.length ≤ 1000000) : oAdd false (rowD l) (rowD m) S = some (rowD (l ++ m), S) := by
  show mkL false (l.map D.int ++ m.map D.int) S = _
  rw [x_mkF, fit_of (by simp; omega), ← List.map_append]; rfl
theorem count_row {l : List Int} {k : Int} {S : Sto} : mCount (rowD l) [.int k] S = some (.int ((l.count k : Nat) : Int), S) := by
  show (match intsD (l.map D.int) with
    | some ns => some (D.int ((ns.count k : Nat) : Int), S)
    | none => none) = _
  rw [intsD_ints]
theorem cut_last {l : List D} : cutD l none (some (-1)) = l.dropLast := by
  unfold cutD
  rw [HT.sIx_none, List.drop_zero, Nat.sub_zero, List.dropLast_eq_take]
  congr 1
  show (if (-1 : Int) < 0 then ((-1 : Int) + (l.length : Int)).toNat else min (-1 : Int).toNat l.length) = _
  rw [if_pos (by decide)]; omega
theorem cutT_last {l : List D} {m : Bool} {S : Sto} : oCut m (.tup l) none (some (-1)) S = some (.tup l.dropLast, S) := by
  show some (D.tup (cutD l none (some (-1))), S) = _
  rw [cut_last]
theorem cutL_last {l : List D} {S : Sto} (h : fit l.dropLast.length = true) : oCut false (.lst l) none (some (-1)) S = some (.lst l.dropLast, S) := by
  show mkL false (cutD l none (some (-1))) S = _
  rw [cut_last, x_mkF, h]; rfl
theorem ix_last {l : List D} {d : D} : ixD (l ++ [d]) (-1) = some d := by
  unfold ixD
  rw [decide_eq_false (by decide), decide_eq_true (by simp; omega)]
  simp only [cond_false, cond_true, List.length_append, List.length_cons, List.length_nil]
  rw [show (-1 + ((l.length + 1 : Nat) : Int)).toNat = l.length by omega]
  simp
theorem eqTup0 {l : List D} {S : Sto} {n : Nat} (h : plL n l = true) (hn : n < 60) : oEq (.tup l) (.tup []) S = some (.bl l.isEmpty, S) := by
  obtain ⟨p, q, h1, h2, h3, h4, e⟩ := eqB_pl (S := S) (n := n + 1) (d := .tup l) (e := .tup []) h (by simp [pl, plL_nil]) (by omega)
  unfold oEq
  rw [e]
  obtain ⟨ps, k1, k2, k3⟩ := plL_ok n l h
  unfold D.py at h1 h2
  rw [k1] at h1; cases h1
  rw [show D.pys [] = some [] from by simp [D.pys]] at h2
  cases h2
  cases l with
  | nil => rw [show D.pys [] = some [] from by simp [D.pys]] at k1; cases k1; simp [PyData.eqv, PyData.eqvAll]
  | cons d l =>
    unfold D.pys at k1
    cases hd : D.py d with
    | none => rw [hd] at k1; cases k1
    | some pd =>
      cases hl : D.pys l with
      | none => rw [hd, hl] at k1; cases k1
      | some pl' => rw [hd, hl] at k1; cases k1; simp [PyData.eqv, PyData.eqvAll]
theorem pl_Lv {n : Nat} {v : Lv} : pl (n + 1) v.D = true := by
  obtain ⟨t, l, c⟩ := v
  cases c <;> simp [Lv.D, pl, plL_cons, plL_nil, pl_int, pl_non]
theorem plL_form {n : Nat} (vs : List Lv) : plL (n + 1) (vs.map Lv.D) = true := plL_map Lv.D (fun _ => pl_Lv) vs

end Sf
end

section
set_option Elab.async false
set_option maxRecDepth 100000
set_option linter.all false
set_option maxHeartbeats 4000000
namespace Sf
open PySem L2
/-! l == [] -/
theorem eqNil {l : List Int} {S : Sto} : oEq (rowD l) (.lst []) S = some (.bl l.isEmpty, S) ∧ oNe (rowD l) (.lst []) S = some (.bl (!l.isEmpty), S) := by
  obtain ⟨p, q, h1, h2, h3, h4, e⟩ := eqB_pl (S := S) (n := 1) (d := rowD l) (e := .lst []) (plL_ints l) rfl (by omega)
  unfold D.py at h1 h2
  rw [pys_ints] at h1
  cases h1
  rw [show D.pys [] = some [] from by simp [D.pys]] at h2
  cases h2
  unfold oEq oNe
  rw [e]
  cases l <;> simp [PyData.eqv, PyData.eqvAll]
theorem dropLast_map_snoc {vs : List Lv} {v : Lv} : ((vs ++ [v]).map Lv.D).dropLast = vs.map Lv.D := by simp

end Sf
end

section
set_option Elab.async false
set_option maxRecDepth 100000
set_option linter.all false
set_option maxHeartbeats 4000000
namespace Sf
open PySem L2
/-! the levels of drawn forms, all of them -/
def lvAll : List Lv := [1, 2, 3, 4].flatMap fun t => [1, 2, 3].flatMap fun l => [none, some t, some (t + 1), some (t + 3)].map fun c => ⟨t, l, c⟩
theorem mem_lvAll {m : Int} {v : Lv} (h : v.In m) (hm : m ≤ 4) : v ∈ lvAll := by
  obtain ⟨t, l, c⟩ := v
  obtain ⟨h1, h2, h3, h4, h5⟩ := h
  simp only at h1 h2 h3 h4 h5
  unfold lvAll
  simp only [List.mem_flatMap, List.mem_map]
  refine ⟨t, by simp; omega, l, by simp; omega, c, ?_, rfl⟩
  simpa using h5
theorem Drawn.all {vs : List Lv} (h : Drawn vs) : ∀ v ∈ vs, v ∈ lvAll := fun v hv => mem_lvAll (h.2.2 v hv) (by have := h.1; unfold mostT; split <;> omega)
theorem all_ok {p : Lv → Bool} (h : lvAll.all p = true) {v : Lv} (hv : v ∈ lvAll) : p v = true := List.all_eq_true.mp h v hv
theorem lvAll_ok {v : Lv} (hv : v ∈ lvAll) : v.Ok := Lv.ok_of (all_ok (p := Lv.okB) (by decide +kernel) hv)
def mtB (vs : List Lv) (s : Int) (rs : List Int) : Bool := (match (playL vs rs).w with
  | some k => decide (k = s)
  | none => false) && (playL vs rs.dropLast).w.isNone && rs.all fun r => decide (r = 0) || decide (r = 1)
theorem mt_of {vs : List Lv} {s : Int} {rs : List Int} (h : mtB vs s rs = true) : Mt vs s rs ∧ Sides rs := by
  unfold mtB at h
  rw [Bool.and_eq_true, Bool.and_eq_true] at h
  obtain ⟨⟨h1, h2⟩, h3⟩ := h
  refine ⟨⟨?_, by simpa using h2⟩, fun r hr => by have := List.all_eq_true.mp h3 r hr; simpa using this⟩
  cases hw : (playL vs rs).w with
  | none => rw [hw] at h1; cases h1
  | some k => rw [hw] at h1; rw [of_decide_eq_true h1]
def alt (n : Int) : List Int := (List.replicate n.toNat [0, 1]).flatten
def rndL (v : Lv) (more : Int) : List Int := if v.l = 1 ∨ v.c = some v.t then alt (v.t - 1) ++ [0] else match v.c with
  | some c => alt (c - 1) ++ [0]
  | none => alt (v.t + more) ++ (List.replicate v.l.toNat [0]).flatten
def turnI (s x : Int) : Int := if s = 0 then x else 1 - x
def rndS (more : Int) (v : Lv) (s : Int) : List Int := (rndL v more).map (turnI s)
theorem rnd_mt {more s : Int} {v : Lv} (hv : v ∈ lvAll) (hm : 0 ≤ more ∧ more ≤ 10) (hs : s = 0 ∨ s = 1) : Mt [v] s (rndS more v s) ∧ Sides (rndS more v s) := by
  have h : (lvAll.all fun v => [0, 1, 2, 3, 4, 5, 6, 7, 8, 9, 10].all fun m => [0, 1].all fun s => mtB [v] s (rndS m v s)) = true := by decide +kernel
  have h := List.all_eq_true.mp (List.all_eq_true.mp (all_ok h hv) more (by simp; omega)) s (by simp; omega)
  exact mt_of h
theorem rnd_len {more : Int} {v : Lv} {m : Int} (hv : v ∈ lvAll) (hm : mostU v = some m) (s : Int) : ((rndS more v s).length : Int) = m := by
  have hv := lvAll_ok hv
  obtain ⟨t, l, c⟩ := v
  obtain ⟨h1, h2, h3, h4, h5⟩ := hv
  simp only at h1 h2 h3 h4 h5
  unfold rndS rndL alt
  unfold mostU at hm
  simp only at hm ⊢
  by_cases hl : l = 1
  · rw [if_pos hl] at hm
    cases hm
    rw [if_pos (.inl hl), List.length_map, List.length_append, PyProof.Rows.lm_len_rep_flat]
    simp; omega
  · rw [if_neg hl] at hm
    cases c with
    | none => cases hm
    | some c =>
      cases hm
      have := h5 c rfl
      by_cases hc : c = t
      · subst hc
        rw [if_pos (.inr rfl), List.length_map, List.length_append, PyProof.Rows.lm_len_rep_flat]
        simp; omega
      · rw [if_neg (by simp [hl, hc]), List.length_map, List.length_append, PyProof.Rows.lm_len_rep_flat]
        simp; omega
theorem mostU_none {v : Lv} : mostU v = none ↔ v.l ≠ 1 ∧ v.c = none := by
  obtain ⟨t, l, c⟩ := v
  unfold mostU
  by_cases hl : l = 1 <;> cases c <;> simp [hl]
theorem mostM_none : ∀ {vs : List Lv}, mostM vs = none ↔ ∃ v ∈ vs, mostU v = none
  | [] => by simp [mostM]
  | v :: vs => by
    have ih := mostM_none (vs := vs)
    unfold mostM
    cases h1 : mostU v with
    | none => simp [h1]
    | some a =>
      cases h2 : mostM vs with
      | none => simp [h1, ih.mp h2]
      | some b =>
        have : ¬ ∃ v ∈ vs, mostU v = none := fun h => by have := ih.mpr h; rw [h2] at this; cases this
        simp [h1]
        simpa using this
/-- the balanced row -/
abbrev balR (vs : List Lv) (more s : Int) : List Int := ptsB (rndS more) vs.reverse s
theorem bal_mt {vs : List Lv} {more s : Int} (h0 : vs ≠ []) (hv : ∀ v ∈ vs, v ∈ lvAll) (hm : 0 ≤ more ∧ more ≤ 10) (hs : s = 0 ∨ s = 1) : Mt vs s (balR vs more s) ∧ Sides (balR vs more s) := by
  have h := ptsB_mt (r := rndS more) (vs := vs.reverse) (s := s) (by simpa using h0) (fun v hv' s hs => rnd_mt (hv v (by simpa using hv')) hm hs) hs
  rw [List.reverse_reverse] at h
  exact ⟨h, ptsB_sides (fun v hv' s hs => (rnd_mt (hv v (by simpa using hv')) hm hs).2) hs⟩
def nU (more : Int) (v : Lv) : Nat := (rndS more v 0).length
theorem rndS_len {more s : Int} {v : Lv} : (rndS more v s).length = nU more v := by unfold nU rndS; simp
theorem bal_len {vs : List Lv} {more s : Int} (hv : ∀ v ∈ vs, v ∈ lvAll) (hm : 0 ≤ more ∧ more ≤ 10) (hs : s = 0 ∨ s = 1) : (balR vs more s).length = (vs.map (nU more)).foldr (· * ·) 1 := by
  have h := ptsB_len (r := rndS more) (n := nU more) (vs := vs.reverse) (s := s) (fun v hv' s hs => ⟨rndS_len, (rnd_mt (hv v (by simpa using hv')) hm hs).2⟩) hs
  rw [h]
  clear h
  have key : ∀ (l : List Nat) (a : Nat), l.foldr (· * ·) a = l.foldr (· * ·) 1 * a := by
    intro l
    induction l with
    | nil => intro a; simp
    | cons x l ih => intro a; simp only [List.foldr_cons]; rw [ih a, Nat.mul_assoc]
  rw [List.map_reverse]
  generalize vs.map (nU more) = l
  induction l with
  | nil => rfl
  | cons x l ih => rw [List.reverse_cons, List.foldr_append, key, ih]; simp [Nat.mul_comm]
theorem bal_most {vs : List Lv} {more s m : Int} (hv : ∀ v ∈ vs, v ∈ lvAll) (hm : 0 ≤ more ∧ more ≤ 10) (hs : s = 0 ∨ s = 1) (h : mostM vs = some m) : ((balR vs more s).length : Int) = m := by
  rw [bal_len hv hm hs]
  clear hs
  induction vs generalizing m with
  | nil => cases h; rfl
  | cons v vs ih =>
    unfold mostM at h
    cases h1 : mostU v with
    | none => rw [h1] at h; cases h
    | some a =>
      cases h2 : mostM vs with
      | none => rw [h1, h2] at h; cases h
      | some b =>
        rw [h1, h2] at h; cases h
        have := rnd_len (more := more) (hv v (by simp)) h1 0
        rw [List.map_cons, List.foldr_cons, Int.natCast_mul, ih (fun v hv' => hv v (by simp [hv'])) h2]
        rw [show ((nU more v : Nat) : Int) = a from this]
theorem nU_pos {more : Int} {v : Lv} (hv : v ∈ lvAll) (hm : 0 ≤ more ∧ more ≤ 10) : 1 ≤ nU more v := by
  have := (rnd_mt hv hm (.inl rfl)).1.ne
  exact List.length_pos_iff.mpr this
theorem nU_mono {more : Int} {v : Lv} (hv : v ∈ lvAll) (hm : 0 ≤ more) : nU more v ≤ nU (more + 1) v ∧ (mostU v = none → nU more v < nU (more + 1) v) := by
  have hv := lvAll_ok hv
  obtain ⟨t, l, c⟩ := v
  obtain ⟨h1, h2, h3, h4, h5⟩ := hv
  simp only at h1 h2 h3 h4 h5
  rw [mostU_none]
  unfold nU rndS rndL alt
  simp only
  by_cases hl : l = 1
  · simp [hl]
  · cases c with
    | some c => by_cases hc : c = t <;> simp [hl, hc]
    | none =>
      simp only [hl, false_or, reduceCtorEq, if_false]
      simp only [List.length_map, List.length_append, PyProof.Rows.lm_len_rep_flat, List.length_cons, List.length_nil]
      constructor
      · omega
      · intro _; omega
theorem bal_more {vs : List Lv} {more s : Int} (hv : ∀ v ∈ vs, v ∈ lvAll) (hm : 0 ≤ more ∧ more ≤ 9) (hs : s = 0 ∨ s = 1) (h : mostM vs = none) : (balR vs more s).length < (balR vs (more + 1) s).length := by
  rw [bal_len hv (by omega) hs, bal_len hv (by omega) hs]
  rw [mostM_none] at h
  have pos : ∀ (vs : List Lv), (∀ v ∈ vs, v ∈ lvAll) → 0 < (vs.map (nU more)).foldr (· * ·) 1 ∧ (vs.map (nU more)).foldr (· * ·) 1 ≤ (vs.map (nU (more + 1))).foldr (· * ·) 1 := by
    intro vs hv
    induction vs with
    | nil => simp
    | cons v vs ih =>
      obtain ⟨i1, i2⟩ := ih fun v hv' => hv v (by simp [hv'])
      have := nU_pos (more := more) (hv v (by simp)) (by omega)
      simp only [List.map_cons, List.foldr_cons]
      exact ⟨Nat.mul_pos this i1, Nat.mul_le_mul (nU_mono (hv v (by simp)) hm.1).1 i2⟩
  obtain ⟨w, hw, hn⟩ := h
  induction vs with
  | nil => simp at hw
  | cons v vs ih =>
    have hv' : ∀ v ∈ vs, v ∈ lvAll := fun v h => hv v (by simp [h])
    obtain ⟨p1, p2⟩ := pos vs hv'
    have m := nU_mono (hv v (by simp)) hm.1
    have q := nU_pos (more := more) (hv v (by simp)) (by omega)
    simp only [List.map_cons, List.foldr_cons]
    rcases List.mem_cons.mp hw with rfl | hw
    · calc _ < nU (more + 1) w * (vs.map (nU more)).foldr (· * ·) 1 := Nat.mul_lt_mul_of_pos_right (m.2 hn) p1
        _ ≤ _ := Nat.mul_le_mul_left _ p2
    · calc _ < nU more v * (vs.map (nU (more + 1))).foldr (· * ·) 1 := Nat.mul_lt_mul_of_pos_left (ih hv' hw) q
        _ ≤ _ := Nat.mul_le_mul_right _ m.1

end Sf
end

section
set_option Elab.async false
set_option maxRecDepth 100000
set_option linter.all false
set_option maxHeartbeats 4000000
namespace Sf
open PySem L2
/-! plain: the lengths of matches, and what the search finds -/
def strL (v : Lv) (s : Int) : List Int := List.replicate (leastU v).toNat s
theorem str_mt {s : Int} {v : Lv} (hv : v ∈ lvAll) (hs : s = 0 ∨ s = 1) : Mt [v] s (strL v s) ∧ Sides (strL v s) := by
  have h : (lvAll.all fun v => [0, 1].all fun s => mtB [v] s (strL v s)) = true := by decide +kernel
  exact mt_of (List.all_eq_true.mp (all_ok h hv) s (by simp; omega))
theorem leastM_app : ∀ (a b : List Lv), leastM (a ++ b) = leastM a * leastM b
  | [], b => by simp [leastM]
  | v :: a, b => by simp only [List.cons_append, leastM]; rw [leastM_app a b, Int.mul_assoc]
theorem leastM_rev : ∀ (a : List Lv), leastM a.reverse = leastM a
  | [] => rfl
  | v :: a => by rw [List.reverse_cons, leastM_app, leastM_rev a]; simp [leastM, Int.mul_comm]
theorem short_ex {vs : List Lv} {s : Int} (h0 : vs ≠ []) (hv : ∀ v ∈ vs, v ∈ lvAll) (hs : s = 0 ∨ s = 1) : ∃ R, Mt vs s R ∧ Sides R ∧ (R.length : Int) = leastM vs := by
  have hv' : ∀ v ∈ vs.reverse, v ∈ lvAll := fun v h => hv v (by simpa using h)
  have h := ptsB_mt (r := strL) (vs := vs.reverse) (s := s) (by simpa using h0) (fun v hv s hs => str_mt (hv' v hv) hs) hs
  rw [List.reverse_reverse] at h
  refine ⟨_, h, ptsB_sides (fun v hv s hs => (str_mt (hv' v hv) hs).2) hs, ?_⟩
  rw [ptsB_len (n := fun v => (leastU v).toNat) (fun v hv s hs => ⟨by simp [strL], (str_mt (hv' v hv) hs).2⟩) hs, ← leastM_rev]
  generalize vs.reverse = us at hv'
  induction us with
  | nil => rfl
  | cons v us ih =>
    have := leastU_pos (lvAll_ok (hv' v (by simp)))
    rw [List.map_cons, List.foldr_cons, Int.natCast_mul, ih fun v h => hv' v (by simp [h]), leastM, Int.toNat_of_nonneg (by omega)]
theorem long_ex {vs : List Lv} {s : Int} (h0 : vs ≠ []) (hv : ∀ v ∈ vs, v ∈ lvAll) (hs : s = 0 ∨ s = 1) (h : mostM vs = none) : ∃ R, Mt vs s R ∧ Sides R ∧ 20 < R.length := by
  obtain ⟨h1, h2⟩ := bal_mt (more := 10) h0 hv (by omega) hs
  refine ⟨_, h1, h2, ?_⟩
  rw [bal_len hv (by omega) hs]
  rw [mostM_none] at h
  obtain ⟨w, hw, hn⟩ := h
  clear h1 h2 h0
  have pos : ∀ (vs : List Lv), (∀ v ∈ vs, v ∈ lvAll) → 0 < (vs.map (nU 10)).foldr (· * ·) 1 := by
    intro vs hv
    induction vs with
    | nil => simp
    | cons v vs ih => exact Nat.mul_pos (nU_pos (hv v (by simp)) (by omega)) (ih fun v h => hv v (by simp [h]))
  induction vs with
  | nil => simp at hw
  | cons v vs ih =>
    have hv' : ∀ v ∈ vs, v ∈ lvAll := fun v h => hv v (by simp [h])
    have p := pos vs hv'
    have q := nU_pos (more := 10) (hv v (by simp)) (by omega)
    simp only [List.map_cons, List.foldr_cons]
    rcases List.mem_cons.mp hw with rfl | hw
    · have h : (lvAll.all fun v => (mostU v).isSome || Nat.blt 20 (nU 10 v)) = true := by decide +kernel
      have h := all_ok h (hv w (by simp))
      rw [hn] at h
      have h : 20 < nU 10 w := by simpa using h
      calc 20 < nU 10 w * 1 := by omega
        _ ≤ _ := Nat.mul_le_mul_left _ p
    · have := ih hv' hw
      calc 20 < 1 * (vs.map (nU 10)).foldr (· * ·) 1 := by omega
        _ ≤ _ := Nat.mul_le_mul_right _ q
theorem most_ex {vs : List Lv} {s m : Int} (h0 : vs ≠ []) (hv : ∀ v ∈ vs, v ∈ lvAll) (hs : s = 0 ∨ s = 1) (h : mostM vs = some m) : ∃ R, Mt vs s R ∧ Sides R ∧ (R.length : Int) = m := by
  obtain ⟨h1, h2⟩ := bal_mt (more := 0) h0 hv (by omega) hs
  exact ⟨_, h1, h2, bal_most hv (by omega) hs h⟩
theorem live_of {vs : List Lv} {rs : List Int} (hv : ∀ v ∈ vs, v.Ok) (hr : Sides rs) (h : (playL vs rs).w = none) : live vs (playL vs rs).st := by
  obtain ⟨e, I⟩ := sofar hv _ rs rfl hr
  rw [← e] at h ⊢
  exact (I.no h).2
theorem st_len {vs : List Lv} {rs : List Int} : (playL vs rs).st.length = vs.length := by unfold playL; rw [foldL_len]; simp [start]
/-- a play that goes on can be ended -/
theorem finish {vs : List Lv} {s : Int} (h0 : vs ≠ []) (hv : ∀ v ∈ vs, v.Ok) (hs : s = 0 ∨ s = 1) : ∀ (n : Nat) (rs : List Int), Sides rs → (playL vs rs).w = none → (NN vs (playL vs rs).st s).toNat = n → ∃ qs, Mt vs s (rs ++ qs) ∧ Sides (rs ++ qs) ∧ rs.length < (rs ++ qs).length
  | 0, rs, hr, hw, hn => by
    have := NN_pos (live_of hv hr hw) hv hs
    omega
  | n + 1, rs, hr, hw, hn => by
    have lv := live_of hv hr hw
    have hl : 1 ≤ vs.length := List.length_pos_iff.mpr h0
    obtain ⟨n1, n2⟩ := NN_step lv hv hs hl st_len
    have hr' : Sides (rs ++ [s]) := fun r h => by
      rcases List.mem_append.mp h with h | h
      · exact hr r h
      · simp at h; subst h; exact hs
    have e := playL_snoc (vs := vs) (rs := rs) (s := s)
    rw [stepL_none hw] at e
    cases ha : (afterL vs (playL vs rs).st s).2 with
    | none =>
      have hw' : (playL vs (rs ++ [s])).w = none := by rw [e]; exact ha
      have hn' : (NN vs (playL vs (rs ++ [s])).st s).toNat = n := by rw [e]; simp only; rw [n1 ha]; omega
      obtain ⟨qs, h1, h2, h3⟩ := finish h0 hv hs n (rs ++ [s]) hr' hw' hn'
      refine ⟨s :: qs, by simpa using h1, by simpa using h2, ?_⟩
      simp
    | some w =>
      have := afterL_w ha
      subst this
      refine ⟨[w], ⟨by rw [e]; exact ha, by simpa using hw⟩, hr', by simp⟩
theorem pre_none {vs : List Lv} {s : Int} {R : List Int} {k : Nat} (h : Mt vs s R) (hk : k < R.length) : (playL vs (R.take k)).w = none := by
  have e : R.dropLast = R.take k ++ R.dropLast.drop k := by
    rw [List.dropLast_eq_take]
    conv => lhs; rw [← List.take_append_drop k (R.take (R.length - 1))]
    rw [List.take_take, Nat.min_eq_left (by omega)]
  have := h.b
  rw [e] at this
  exact play_pre this

end Sf
end

section
set_option Elab.async false
set_option maxRecDepth 100000
set_option linter.all false
set_option maxHeartbeats 4000000
namespace Sf
open PySem L2
/-! settled scores -/
def spare (v : Lv) (p : Pr) : Int := match v.c with
  | none => min p.1 p.2 - v.t + 1
  | some _ => 0
def setlP (v : Lv) (p : Pr) : Pr := if 0 < spare v p then (p.1 - spare v p, p.2 - spare v p) else p
def setlM : List Lv → List Pr → List Pr
  | v :: vs, p :: ps => setlP v p :: setlM vs ps
  | _, _ => []
theorem setlM_len : ∀ {vs : List Lv} {ps : List Pr}, ps.length = vs.length → (setlM vs ps).length = vs.length
  | [], [], _ => rfl
  | [], p :: ps, h => by simp at h
  | v :: vs, [], h => by simp at h
  | v :: vs, p :: ps, h => by simp [setlM, setlM_len (vs := vs) (ps := ps) (by simpa using h)]
def setlB : FS := (sSeq (sAsg 5 (fIf (tVal (fOp2 oIs (fOp2 oIx (fVar 3) (fCon (.int 2))) (fCon .non))) (fOp2 (oAdd false) (fOp2 (oSub) (fOpN oMin (fCons (fVar 4) (fNil))) (fOp2 oIx (fVar 3) (fCon (.int 0)))) (fCon (.int 1))) (fCon (.int 0))))
    (sExpr (fMethL mAppend (fVar 2) (fCons (fIf (tVal (fOp2 oGt (fVar 5) (fCon (.int 0)))) (fTup (fCons (fOp2 (oSub) (fOp2 oIx (fVar 4) (fCon (.int 0))) (fVar 5)) (fCons (fOp2 (oSub) (fOp2 oIx (fVar 4) (fCon (.int 1))) (fVar 5)) (fNil)))) (fVar 4)) (fNil)))))
theorem minPr {p : Pr} {S : Sto} : oMin [.tup [.int p.1, .int p.2]] S = some (.int (min p.1 p.2), S) := rfl
@[simp] theorem x_append {n : Nat} {d : D} {S : Sto} : mAppend (.loc n) [d] S = match S[n]? with
    | some (.lst l) => bif fitS l.length then some (.non, S.set n (.lst (l ++ [d]))) else none
    | _ => none := rfl
theorem isLs_of {n : Nat} {S : Sto} {l : List D} (h : S[n]? = some (.lst l)) : isLs (.loc n) S = true := by unfold isLs lsR lsW; simp [h]
theorem fitS_of {n : Nat} (h : n < 16777216) : fitS n = true := nat_blt h
theorem t_setlB {x0 x1 : D} : ∀ (vs : List Lv) (ps : List Pr) (acc : List Pr) (a b c : D), ps.length = vs.length → acc.length + vs.length ≤ 1000 →
    ∃ a' b' c', forL (unTup [3, 4]) setlB (zipL (vs.map Lv.D) (ps.map prD)) [x0, x1, .loc 0, a, b, c] [.lst (acc.map prD)] = .nx [x0, x1, .loc 0, a', b', c'] [.lst ((acc ++ setlM vs ps).map prD)]
  | [], [], acc, a, b, c, _, _ => ⟨a, b, c, by simp [zipL, forL, setlM]⟩
  | [], p :: ps, acc, a, b, c, h, _ => by simp at h
  | v :: vs, [], acc, a, b, c, h, _ => by simp at h
  | v :: vs, p :: ps, acc, a, b, c, h, hl => by
    simp only [List.length_cons] at h hl
    have hf : fitS acc.length = true := fitS_of (by omega)
    have e : setlB [x0, x1, .loc 0, v.D, prD p, c] [.lst (acc.map prD)] = .nx [x0, x1, .loc 0, v.D, prD p, .int (spare v p)] [.lst ((acc ++ [setlP v p]).map prD)] := by
      have il : isLs (.loc 0) [.lst (acc.map prD)] = true := isLs_of rfl
      have mn := fun S => minPr (p := p) (S := S)
      obtain ⟨t, l, cp⟩ := v
      unfold setlB setlP Lv.D prD at *
      cases cp with
      | none =>
        by_cases hs : 0 < spare ⟨t, l, none⟩ p
        · simp only [spare] at hs
          simp [spare, hs, mn, il, hf]
        · simp only [spare] at hs
          simp [spare, hs, mn, il, hf]
      | some cp => simp [spare, il, hf]
    obtain ⟨a', b', c', ih⟩ := t_setlB (x0 := x0) (x1 := x1) vs ps (acc ++ [setlP v p]) v.D (prD p) (.int (spare v p)) (by omega) (by rw [List.length_append, List.length_singleton]; omega)
    refine ⟨a', b', c', ?_⟩
    have hz : zipL ((v :: vs).map Lv.D) ((p :: ps).map prD) = .tup [v.D, prD p] :: zipL (vs.map Lv.D) (ps.map prD) := rfl
    rw [hz, forL_cons (env1 := [x0, x1, .loc 0, v.D, prD p, c]) rfl, e]
    show forL _ _ _ _ _ = _
    rw [ih]
    simp [setlM]
theorem t_settled {vs : List Lv} {ps : List Pr} {S : Sto} (hv : vs.length ≤ 500) (h : ps.length = vs.length) : pureF f_settled [formD vs, stD ps] S = .ok (stD (setlM vs ps)) S := by
  refine pure_eq (by simp [lowL, lowD, low_prs]; exact lowL_map Lv.D (fun _ => low_Lv) vs) ?_
  obtain ⟨a', b', c', key⟩ := t_setlB (x0 := formD vs) (x1 := stD ps) vs ps [] .und .und .und h (by simp; omega)
  unfold f_settled fn b_settled
  change fnEnd false 0 (sSeq _ (sSeq (sFor _ _ setlB) _) _ _) = _
  have key : forL (unTup [3, 4]) setlB (zipL (vs.map Lv.D) (ps.map prD)) [formD vs, stD ps, .loc 0, .und, .und, .und] [.lst []] = _ := key
  have kz : kZip [formD vs, stD ps] = some (zipL (vs.map Lv.D) (ps.map prD)) := rfl
  have fin := end_pl (n := 2) (d := stD (setlM vs ps)) (S := [.lst ((([] : List Pr) ++ setlM vs ps).map prD)]) (by show plL 1 _ = true; exact pl_st _) (by omega)
  simp only [List.nil_append] at fin key
  simp [kz, key, fin]
/-- the same but for units that both sides have too many of -/
def Eqp (v : Lv) (p q : Pr) : Prop := p = q ∨ (v.c = none ∧ p.1 - p.2 = q.1 - q.2 ∧ v.t - 1 ≤ min p.1 p.2 ∧ v.t - 1 ≤ min q.1 q.2)
def Eqs : List Lv → List Pr → List Pr → Prop
  | v :: vs, p :: ps, q :: qs => Eqp v p q ∧ Eqs vs ps qs
  | [], ps, qs => ps = qs
  | _, [], qs => qs = []
  | _, _, [] => False
theorem Eqp.refl {v : Lv} {p : Pr} : Eqp v p p := .inl rfl
theorem Eqp.symm {v : Lv} {p q : Pr} (h : Eqp v p q) : Eqp v q p := by
  rcases h with h | ⟨h1, h2, h3, h4⟩
  · exact .inl h.symm
  · exact .inr ⟨h1, h2.symm, h4, h3⟩
theorem Eqp.trans {v : Lv} {p q r : Pr} (h : Eqp v p q) (h' : Eqp v q r) : Eqp v p r := by
  rcases h with rfl | ⟨h1, h2, h3, h4⟩
  · exact h'
  · rcases h' with rfl | ⟨k1, k2, k3, k4⟩
    · exact .inr ⟨h1, h2, h3, h4⟩
    · exact .inr ⟨h1, h2.trans k2, h3, k4⟩
theorem Eqs.refl : ∀ {vs : List Lv} {ps : List Pr}, Eqs vs ps ps
  | [], ps => rfl
  | v :: vs, [] => rfl
  | v :: vs, p :: ps => ⟨.refl, Eqs.refl⟩
theorem Eqp.setl {v : Lv} {p : Pr} : Eqp v p (setlP v p) := by
  obtain ⟨t, l, c⟩ := v
  obtain ⟨a, b⟩ := p
  unfold setlP
  cases c with
  | some c => simp [spare, Eqp]
  | none =>
    by_cases h : 0 < spare ⟨t, l, none⟩ (a, b)
    · rw [if_pos h]
      simp only [spare] at h ⊢
      refine .inr ⟨rfl, ?_, ?_, ?_⟩ <;> simp only <;> omega
    · rw [if_neg h]; exact .refl
theorem Eqs.setl : ∀ {vs : List Lv} {ps : List Pr}, ps.length = vs.length → Eqs vs ps (setlM vs ps)
  | [], [], _ => rfl
  | [], p :: ps, h => by simp at h
  | v :: vs, [], h => by simp at h
  | v :: vs, p :: ps, h => ⟨.setl, Eqs.setl (by simpa using h)⟩
theorem Eqs.len : ∀ {vs : List Lv} {ps qs : List Pr}, Eqs vs ps qs → qs.length = ps.length
  | [], ps, qs, h => by rw [show ps = qs from h]
  | v :: vs, [], qs, h => by cases qs <;> simp [Eqs] at h ⊢
  | v :: vs, p :: ps, [], h => h.elim
  | v :: vs, p :: ps, q :: qs, h => by rw [List.length_cons, List.length_cons, Eqs.len h.2]
theorem Eqp.plus {v : Lv} {p q : Pr} {s : Int} (h : Eqp v p q) (hs : s = 0 ∨ s = 1) : Eqp v (plusM p s) (plusM q s) ∧ lwonP v (plusM p s) s = lwonP v (plusM q s) s := by
  rcases h with rfl | ⟨h1, h2, h3, h4⟩
  · exact ⟨.refl, rfl⟩
  · obtain ⟨t, l, c⟩ := v
    obtain ⟨a, b⟩ := p
    obtain ⟨a', b'⟩ := q
    simp only at h1 h2 h3 h4
    subst h1
    rcases hs with rfl | rfl
    · refine ⟨.inr ⟨rfl, ?_, ?_, ?_⟩, ?_⟩
      · simp [plusM]; omega
      · simp [plusM]; omega
      · simp [plusM]; omega
      · rw [Bool.eq_iff_iff]
        simp [lwonP, lwon, plusM, ownP]; omega
    · refine ⟨.inr ⟨rfl, ?_, ?_, ?_⟩, ?_⟩
      · simp [plusM]; omega
      · simp [plusM]; omega
      · simp [plusM]; omega
      · rw [Bool.eq_iff_iff]
        simp [lwonP, lwon, plusM, ownP]; omega
theorem Eqs.after : ∀ {vs : List Lv} {ps qs : List Pr} {s : Int}, Eqs vs ps qs → s = 0 ∨ s = 1 → (afterL vs ps s).2 = (afterL vs qs s).2 ∧ Eqs vs (afterL vs ps s).1 (afterL vs qs s).1
  | [], ps, qs, s, h, _ => by rw [show ps = qs from h]; exact ⟨rfl, .refl⟩
  | v :: vs, [], qs, s, h, _ => by cases qs <;> simp [Eqs] at h ⊢; exact .refl
  | v :: vs, p :: ps, [], s, h, _ => h.elim
  | v :: vs, p :: ps, q :: qs, s, h, hs => by
    obtain ⟨e1, e2⟩ := h.1.plus hs
    have f1 : ∀ p (vs : List Lv) (ps : List Pr), lwonP v (plusM p s) s = false → afterL (v :: vs) (p :: ps) s = (plusM p s :: ps, none) := fun p vs ps hw => by unfold afterL; rw [hw]; rfl
    have f2 : ∀ p (ps : List Pr), lwonP v (plusM p s) s = true → afterL [v] (p :: ps) s = (plusM p s :: ps, some s) := fun p ps hw => by unfold afterL; rw [hw]; rfl
    have f3 : ∀ p v2 (vs : List Lv) (ps : List Pr), lwonP v (plusM p s) s = true → afterL (v :: v2 :: vs) (p :: ps) s = ((0, 0) :: (afterL (v2 :: vs) ps s).1, (afterL (v2 :: vs) ps s).2) := fun p v2 vs ps hw => by
      rw [afterL, hw]
      · rfl
      · intro h; cases h
    cases hw : lwonP v (plusM p s) s with
    | false =>
      have hw' := e2.symm.trans hw
      rw [f1 p vs ps hw, f1 q vs qs hw']
      exact ⟨rfl, e1, h.2⟩
    | true =>
      have hw' := e2.symm.trans hw
      cases vs with
      | nil => rw [f2 p ps hw, f2 q qs hw']; exact ⟨rfl, e1, h.2⟩
      | cons v2 vs =>
        obtain ⟨i1, i2⟩ := Eqs.after (s := s) h.2 hs
        rw [f3 p v2 vs ps hw, f3 q v2 vs qs hw']
        exact ⟨i1, .refl, i2⟩

end Sf
end

section
set_option Elab.async false
set_option maxRecDepth 100000
set_option linter.all false
set_option maxHeartbeats 4000000
namespace Sf
open PySem L2
/-! the least points of a side -/
inductive Lst (vs : List Lv) (s : Int) : List Pr → Nat → Prop
  | fin {st : List Pr} : (afterL vs st s).2 ≠ none → Lst vs s st 1
  | own {st : List Pr} {k : Nat} : (afterL vs st s).2 = none → Lst vs s (afterL vs st s).1 k → Lst vs s st (k + 1)
  | oth {st : List Pr} {k : Nat} : (afterL vs st (1 - s)).2 = none → Lst vs s (afterL vs st (1 - s)).1 k → Lst vs s st k
theorem oth01 {s : Int} (hs : s = 0 ∨ s = 1) : 1 - s = 0 ∨ 1 - s = 1 := by omega
theorem Lst.pos {vs : List Lv} {s : Int} {st : List Pr} {k : Nat} (h : Lst vs s st k) : 1 ≤ k := by
  induction h with
  | fin _ => omega
  | own _ _ ih => omega
  | oth _ _ ih => exact ih
theorem Lst.eqs {vs : List Lv} {s : Int} {st : List Pr} {k : Nat} (h : Lst vs s st k) (hs : s = 0 ∨ s = 1) : ∀ {qs : List Pr}, Eqs vs st qs → Lst vs s qs k := by
  induction h with
  | fin h => intro qs e; exact .fin (by rw [← (e.after hs).1]; exact h)
  | own h _ ih => intro qs e; exact .own (by rw [← (e.after hs).1]; exact h) (ih (e.after hs).2)
  | oth h _ ih => intro qs e; exact .oth (by rw [← (e.after (oth01 hs)).1]; exact h) (ih (e.after (oth01 hs)).2)
theorem Eqs.symm : ∀ {vs : List Lv} {ps qs : List Pr}, Eqs vs ps qs → Eqs vs qs ps
  | [], ps, qs, h => by rw [show ps = qs from h]; exact .refl
  | v :: vs, [], qs, h => by cases qs with
    | nil => exact .refl
    | cons q qs => simp [Eqs] at h
  | v :: vs, p :: ps, [], h => h.elim
  | v :: vs, p :: ps, q :: qs, h => ⟨h.1.symm, Eqs.symm h.2⟩
def IsL (vs : List Lv) (s : Int) (st : List Pr) (m : Nat) : Prop := Lst vs s st m ∧ ∀ k, Lst vs s st k → m ≤ k
theorem least_nat {P : Nat → Prop} : ∀ (n : Nat), P n → ∃ m, P m ∧ ∀ k, P k → m ≤ k := by
  intro n
  induction n using Nat.strongRecOn with
  | _ n ih =>
    intro h
    by_cases c : ∃ k, k < n ∧ P k
    · obtain ⟨k, hk, hp⟩ := c; exact ih k hk hp
    · exact ⟨n, h, fun k hk => by
        rcases Nat.lt_or_ge k n with z | z
        · exact absurd ⟨k, z, hk⟩ c
        · exact z⟩
theorem IsL.uniq {vs : List Lv} {s : Int} {st : List Pr} {m n : Nat} (h : IsL vs s st m) (h' : IsL vs s st n) : m = n := Nat.le_antisymm (h.2 _ h'.1) (h'.2 _ h.1)
theorem IsL.eqs {vs : List Lv} {s : Int} {st qs : List Pr} {m : Nat} (h : IsL vs s st m) (hs : s = 0 ∨ s = 1) (e : Eqs vs st qs) : IsL vs s qs m := ⟨h.1.eqs hs e, fun k hk => h.2 k (hk.eqs hs e.symm)⟩
theorem lst_straight {vs : List Lv} {s : Int} (h0 : 1 ≤ vs.length) (hv : ∀ v ∈ vs, v.Ok) (hs : s = 0 ∨ s = 1) : ∀ (n : Nat) (st : List Pr), live vs st → st.length = vs.length → (NN vs st s).toNat = n → Lst vs s st n
  | 0, st, lv, hl, hn => by
    have := NN_pos lv hv hs
    omega
  | n + 1, st, lv, hl, hn => by
    obtain ⟨n1, n2⟩ := NN_step lv hv hs h0 hl
    cases ha : (afterL vs st s).2 with
    | none =>
      have hn' : (NN vs (afterL vs st s).1 s).toNat = n := by rw [n1 ha]; omega
      exact .own ha (lst_straight h0 hv hs n _ ((live.step lv hv hs).2.1 ha) (by rw [afterL_len]; exact hl) hn')
    | some w =>
      have hk : n = 0 := by
        have : ¬ (1 < NN vs st s) := fun h => by rw [n2.mpr h] at ha; cases ha
        omega
      subst hk
      exact .fin (by rw [ha]; simp)
theorem isL_ex {vs : List Lv} {s : Int} {st : List Pr} (h0 : 1 ≤ vs.length) (hv : ∀ v ∈ vs, v.Ok) (hs : s = 0 ∨ s = 1) (lv : live vs st) (hl : st.length = vs.length) : ∃ m, IsL vs s st m ∧ m ≤ (NN vs st s).toNat := by
  have h := lst_straight h0 hv hs _ st lv hl rfl
  obtain ⟨m, h1, h2⟩ := least_nat _ h
  exact ⟨m, ⟨h1, h2⟩, h2 _ h⟩
/-! settled states -/
theorem setlP_cases (v : Lv) (p : Pr) : (v.c = none ∧ 0 < min p.1 p.2 - v.t + 1 ∧ setlP v p = (p.1 - (min p.1 p.2 - v.t + 1), p.2 - (min p.1 p.2 - v.t + 1))) ∨ ((v.c = none → min p.1 p.2 - v.t + 1 ≤ 0) ∧ setlP v p = p) := by
  have e : setlP v p = if 0 < spare v p then (p.1 - spare v p, p.2 - spare v p) else p := rfl
  cases hc : v.c with
  | some c =>
    have hs : spare v p = 0 := by unfold spare; rw [hc]
    refine .inr ⟨fun h => (by cases h), ?_⟩
    rw [e, hs, if_neg (by omega)]
  | none =>
    have hs : spare v p = min p.1 p.2 - v.t + 1 := by unfold spare; rw [hc]
    by_cases h : 0 < spare v p
    · refine .inl ⟨rfl, by omega, ?_⟩
      rw [e, if_pos h, hs]
    · refine .inr ⟨fun _ => by omega, ?_⟩
      rw [e, if_neg h]
theorem NT.setl {v : Lv} {p : Pr} (h : NT v p) : NT v (setlP v p) := by
  rcases setlP_cases v p with ⟨hc, h0, e⟩ | ⟨_, e⟩
  · obtain ⟨h1, h2, h3⟩ := h
    rw [e]
    refine ⟨?_, ?_, fun c e => by rw [hc] at e; cases e⟩
    · simp only; omega
    · simp only; omega
  · rw [e]; exact h
theorem live.setl : ∀ {vs : List Lv} {ps : List Pr}, live vs ps → live vs (setlM vs ps)
  | [], ps, _ => by cases ps <;> simp [setlM, live]
  | v :: vs, [], _ => by simp [setlM, live]
  | v :: vs, p :: ps, h => ⟨h.1.setl, live.setl h.2⟩
def nnl (st : List Pr) : Prop := ∀ p ∈ st, 0 ≤ p.1 ∧ 0 ≤ p.2
theorem nnl.setl : ∀ {vs : List Lv} {ps : List Pr}, nnl ps → (∀ v ∈ vs, v.Ok) → nnl (setlM vs ps)
  | [], ps, _, _ => by cases ps <;> simp [setlM, nnl]
  | v :: vs, [], _, _ => by simp [setlM, nnl]
  | v :: vs, p :: ps, h, hv => fun q hq => by
    rcases List.mem_cons.mp hq with rfl | hq
    · have hp := h p (by simp)
      have ht := (hv v (by simp)).1
      rcases setlP_cases v p with ⟨hc, h0, e⟩ | ⟨_, e⟩
      · rw [e]; simp only; omega
      · rw [e]; exact hp
    · exact nnl.setl (fun p hp => h p (by simp [hp])) (fun v hv' => hv v (by simp [hv'])) q hq
theorem nnl.after : ∀ {vs : List Lv} {ps : List Pr} {s : Int}, nnl ps → nnl (afterL vs ps s).1
  | [], ps, s, h => by cases ps <;> simpa [afterL] using h
  | v :: vs, [], s, h => by simpa [afterL] using h
  | v :: vs, p :: ps, s, h => by
    have hp := h p (by simp)
    have hq : 0 ≤ (plusM p s).1 ∧ 0 ≤ (plusM p s).2 := by unfold plusM; split <;> simp <;> omega
    have ht : nnl ps := fun q hq => h q (by simp [hq])
    have cons : ∀ (q : Pr) (qs : List Pr), (0 ≤ q.1 ∧ 0 ≤ q.2) → nnl qs → nnl (q :: qs) := fun q qs h1 h2 r hr => by
      rcases List.mem_cons.mp hr with rfl | hr
      · exact h1
      · exact h2 r hr
    cases hw : lwonP v (plusM p s) s with
    | false =>
      have e : afterL (v :: vs) (p :: ps) s = (plusM p s :: ps, none) := by unfold afterL; rw [hw]; rfl
      rw [e]; exact cons _ _ hq ht
    | true =>
      cases vs with
      | nil =>
        have e : afterL [v] (p :: ps) s = (plusM p s :: ps, some s) := by unfold afterL; rw [hw]; rfl
        rw [e]; exact cons _ _ hq ht
      | cons v2 vs =>
        have e : afterL (v :: v2 :: vs) (p :: ps) s = ((0, 0) :: (afterL (v2 :: vs) ps s).1, (afterL (v2 :: vs) ps s).2) := by
          rw [afterL, hw]
          · rfl
          · intro h; cases h
        rw [e]; exact cons _ _ (by simp) (nnl.after ht)
theorem setlP_idem {v : Lv} {p : Pr} : setlP v (setlP v p) = setlP v p := by
  rcases setlP_cases v p with ⟨hc, h0, e⟩ | ⟨_, e⟩
  · rw [e]
    rcases setlP_cases v (p.1 - (min p.1 p.2 - v.t + 1), p.2 - (min p.1 p.2 - v.t + 1)) with ⟨_, h1, _⟩ | ⟨_, e1⟩
    · simp only at h1; omega
    · exact e1
  · rw [e, e]
theorem setlM_idem : ∀ {vs : List Lv} {ps : List Pr}, setlM vs (setlM vs ps) = setlM vs ps
  | [], ps => by cases ps <;> simp [setlM]
  | v :: vs, [] => by simp [setlM]
  | v :: vs, p :: ps => by simp [setlM, setlP_idem, setlM_idem (vs := vs) (ps := ps)]
/-- a settled score of a match that goes on -/
structure OkS (vs : List Lv) (st : List Pr) : Prop where
  len : st.length = vs.length
  lv : live vs st
  nn : nnl st
  se : setlM vs st = st
theorem OkS.of {vs : List Lv} {st : List Pr} (hv : ∀ v ∈ vs, v.Ok) (hl : st.length = vs.length) (lv : live vs st) (nn : nnl st) : OkS vs (setlM vs st) := ⟨setlM_len hl, lv.setl, nn.setl hv, setlM_idem⟩
theorem OkS.step {vs : List Lv} {st : List Pr} {s : Int} (hv : ∀ v ∈ vs, v.Ok) (h : OkS vs st) (hs : s = 0 ∨ s = 1) (ha : (afterL vs st s).2 = none) : OkS vs (setlM vs (afterL vs st s).1) :=
  .of hv (by rw [afterL_len]; exact h.len) ((live.step h.lv hv hs).2.1 ha) h.nn.after
def rngN (n : Nat) : List Int := (List.range n).map Int.ofNat
def pairsL (v : Lv) : List Pr := (rngN (v.t + 3).toNat).flatMap fun a => (rngN (v.t + 3).toNat).map fun b => (a, b)
def boxL : List Lv → List (List Pr)
  | [] => [[]]
  | v :: vs => (pairsL v).flatMap fun p => (boxL vs).map fun q => p :: q
theorem mem_rngN {n : Nat} {i : Int} (h : 0 ≤ i) (h' : i < n) : i ∈ rngN n := by
  unfold rngN
  rw [List.mem_map]
  exact ⟨i.toNat, List.mem_range.mpr (by omega), by simp; omega⟩
theorem OkS.box : ∀ {vs : List Lv} {st : List Pr}, (∀ v ∈ vs, v ∈ lvAll) → OkS vs st → st ∈ boxL vs
  | [], [], _, _ => by simp [boxL]
  | [], p :: ps, _, h => by have := h.len; simp at this
  | v :: vs, [], _, h => by have := h.len; simp at this
  | v :: vs, p :: ps, hv, h => by
    have hse := h.se
    simp only [setlM, List.cons.injEq] at hse
    have ih := OkS.box (vs := vs) (st := ps) (fun v hv' => hv v (by simp [hv'])) ⟨by simpa using h.len, h.lv.2, fun q hq => h.nn q (by simp [hq]), hse.2⟩
    have hvo := lvAll_ok (hv v (by simp))
    have hp := h.nn p (by simp)
    have hc : ∀ c, v.c = some c → c ≤ v.t + 3 := fun c e => by
      have hx : (lvAll.all fun v => match v.c with
        | some c => decide (c ≤ v.t + 3)
        | none => true) = true := by decide +kernel
      have := all_ok hx (hv v (by simp))
      rw [e] at this
      simpa using this
    have nt := h.lv.1
    have bd : p.1 < v.t + 3 ∧ p.2 < v.t + 3 := by
      obtain ⟨h1, h2, h3⟩ := nt
      obtain ⟨o1, o2, o3, o4, o5⟩ := hvo
      cases hvc : v.c with
      | some c => have := hc c hvc; have := h3 c hvc; omega
      | none =>
        have hs := hse.1
        rcases setlP_cases v p with ⟨_, h0, e⟩ | ⟨h0, e⟩
        · rw [e] at hs
          have e1 : p.1 - (min p.1 p.2 - v.t + 1) = p.1 := congrArg Prod.fst hs
          omega
        · have := h0 hvc; omega
    have ht : 0 ≤ v.t + 3 := by have := hvo.1; omega
    unfold boxL
    rw [List.mem_flatMap]
    refine ⟨p, ?_, List.mem_map.mpr ⟨ps, ih, rfl⟩⟩
    unfold pairsL
    rw [List.mem_flatMap]
    exact ⟨p.1, mem_rngN hp.1 (by omega), List.mem_map.mpr ⟨p.2, mem_rngN hp.2 (by omega), rfl⟩⟩
theorem len_flat_const {α β : Type} {f : α → List β} {k : Nat} : ∀ {l : List α}, (∀ a ∈ l, (f a).length = k) → (l.flatMap f).length = l.length * k
  | [], _ => by simp
  | a :: l, h => by
    rw [List.flatMap_cons, List.length_append, len_flat_const fun a ha => h a (by simp [ha]), h a (by simp), List.length_cons, Nat.add_mul]; omega
theorem pairsL_len {v : Lv} : (pairsL v).length = (v.t + 3).toNat * (v.t + 3).toNat := by
  unfold pairsL
  rw [len_flat_const (k := (v.t + 3).toNat) fun a ha => by simp [rngN]]
  simp [rngN]
theorem boxL_len : ∀ {vs : List Lv}, (boxL vs).length = (vs.map fun v => (v.t + 3).toNat * (v.t + 3).toNat).foldr (· * ·) 1
  | [] => rfl
  | v :: vs => by
    unfold boxL
    rw [len_flat_const (k := (boxL vs).length) fun a ha => by simp, pairsL_len, List.map_cons, List.foldr_cons, boxL_len]
theorem nodup_le {α : Type} [DecidableEq α] : ∀ {l b : List α}, l.Nodup → (∀ x ∈ l, x ∈ b) → l.length ≤ b.length
  | [], b, _, _ => Nat.zero_le _
  | x :: l, b, hn, h => by
    obtain ⟨h1, h2⟩ := List.nodup_cons.mp hn
    have hb := h x (by simp)
    have := nodup_le (l := l) (b := b.erase x) h2 fun y hy => (List.mem_erase_of_ne (by rintro rfl; exact h1 hy)).mpr (h y (by simp [hy]))
    rw [List.length_erase_of_mem hb] at this
    have := List.length_pos_of_mem hb
    rw [List.length_cons]; omega

end Sf
end

section
set_option Elab.async false
set_option maxRecDepth 100000
set_option linter.all false
set_option maxHeartbeats 4000000
namespace Sf
open PySem L2
/-! scores as keys -/
theorem keys_pr : ∀ st : List Pr, D.keys (st.map prD) = some (st.map fun p => NestedKey.tup [.num p.1, .num p.2])
  | [] => by simp [D.keys]
  | p :: st => by
    rw [List.map_cons]
    unfold D.keys
    rw [keys_pr st]
    simp [prD, D.key, D.keys]
theorem key_st (st : List Pr) : D.key (stD st) = some (.tup (st.map fun p => NestedKey.tup [.num p.1, .num p.2])) := by
  unfold D.key
  rw [keys_pr]; rfl
theorem keyEq_st {a b : List Pr} : keyEq (stD a) (stD b) = decide (a = b) := by
  unfold keyEq
  rw [key_st, key_st]
  simp only
  rw [← NestedKey.decide_eq]
  apply decide_eq_decide.mpr
  constructor
  · intro h
    have h := NestedKey.tup.inj h
    have inj : ∀ (a b : List Pr), (a.map fun p => NestedKey.tup [.num p.1, .num p.2]) = (b.map fun p => NestedKey.tup [.num p.1, .num p.2]) → a = b := by
      intro a
      induction a with
      | nil => intro b h; cases b with
        | nil => rfl
        | cons => simp at h
      | cons p a ih =>
        intro b h
        cases b with
        | nil => simp at h
        | cons q b =>
          simp only [List.map_cons, List.cons.injEq, NestedKey.tup.injEq, NestedKey.num.injEq, and_true] at h
          rw [ih b h.2]
          obtain ⟨p1, p2⟩ := p
          obtain ⟨q1, q2⟩ := q
          simp only at h
          rw [h.1.1, h.1.2]
    exact inj a b h
  · rintro rfl; rfl
theorem keyOk_st {a : List Pr} : keyOk (stD a) = true := by
  unfold keyOk
  rw [key_st]
  have hd : NestedKey.depthAll (a.map fun p => NestedKey.tup [.num p.1, .num p.2]) ≤ 1 := by
    induction a with
    | nil => simp [NestedKey.depthAll]
    | cons p a ih =>
      rw [List.map_cons]
      unfold NestedKey.depthAll
      simp only [NestedKey.depth, NestedKey.depthAll]
      omega
  show (true && Nat.ble (NestedKey.depth (.tup _)) 8) = true
  unfold NestedKey.depth
  rw [Nat.ble_eq_true_of_le (by omega)]; rfl

end Sf
end

section
set_option Elab.async false
set_option maxRecDepth 100000
set_option linter.all false
set_option maxHeartbeats 4000000
namespace Sf
open PySem L2
/-! the program's least -/
mutual
theorem lowD_up {n : Nat} : ∀ (d : D), lowD 0 d = true → lowD n d = true
  | .tup l, h => lowL_up l h
  | .lst l, h => lowL_up l h
  | .scr l, h => lowL_up l h
  | .loc k, h => absurd (Nat.le_of_ble_eq_true h) (Nat.not_succ_le_zero _)
  | .und, _ => rfl
  | .non, _ => rfl
  | .bl _, _ => rfl
  | .int _, _ => rfl
  | .str _, _ => rfl
  | .glob _, _ => rfl
theorem lowL_up {n : Nat} : ∀ (l : List D), lowL 0 l = true → lowL n l = true
  | [], _ => rfl
  | d :: l, h => by
    have h : (lowD 0 d && lowL 0 l) = true := h
    rw [Bool.and_eq_true] at h
    show (lowD n d && lowL n l) = true
    rw [lowD_up d h.1, lowL_up l h.2]; rfl
end
theorem lowO_up {n : Nat} {o : Ob} (h : lowO 0 o = true) : lowO n o = true := by
  cases o with
  | lst l => exact lowL_up l h
  | dct lk kvs =>
    have h : (kvs.all fun p => lowD 0 p.1 && lowD 0 p.2) = true := h
    show (kvs.all fun p => lowD n p.1 && lowD n p.2) = true
    rw [List.all_eq_true] at h ⊢
    intro p hp
    have := h p hp
    rw [Bool.and_eq_true] at this ⊢
    exact ⟨lowD_up _ this.1, lowD_up _ this.2⟩
  | dki lk kvs =>
    have h : (kvs.all fun p => lowD 0 p.2) = true := h
    show (kvs.all fun p => lowD n p.2) = true
    rw [List.all_eq_true] at h ⊢
    exact fun p hp => lowD_up _ (h p hp)
  | ins fs =>
    have h : (fs.all fun p => lowD 0 p.2) = true := h
    show (fs.all fun p => lowD n p.2) = true
    rw [List.all_eq_true] at h ⊢
    exact fun p hp => lowD_up _ (h p hp)

end Sf
end

section
set_option Elab.async false
set_option maxRecDepth 100000
set_option linter.all false
set_option maxHeartbeats 4000000
namespace Sf
open PySem L2
/-! an empty list; an item of a dict is set -/
@[simp] theorem x_asgX {fe fo fi : FE} {env : En} {S : Sto} : sAsgX fe fo fi env S = (fe env S).bindS fun x S1 => (fo env S1).bindS fun o S2 => (fi env S2).bindS fun i S3 => match setX o i x S3 with
  | some S4 => .nx env S4
  | none => .bad := rfl
theorem neNil {d : D} {n : Nat} {l : List D} {S : Sto} (h : d = .lst l ∨ ∃ n, d = .loc n ∧ S[n]? = some (.lst l)) (hl : plL n l = true) (hn : n < 60) : oNe d (.lst []) S = some (.bl (!l.isEmpty), S) := by
  have hd : deref S d = .lst l := by
    rcases h with rfl | ⟨n, rfl, h⟩
    · rfl
    · unfold deref; simp only; rw [h]
  obtain ⟨ps, k1, k2, k3⟩ := plL_ok n l hl
  have e := eqB_gen (x := d) (y := .lst []) (S := S) (p := .list ps) (q := .list []) (by rw [hd]; unfold D.py; rw [k1]; rfl) (by unfold deref D.py; simp [D.pys]) (by unfold SeqAt.shaped PyData.canLay0 PyData.depth; rw [k2]; simp; omega) rfl
  unfold oNe
  rw [e]
  cases l with
  | nil => rw [show D.pys [] = some [] from by simp [D.pys]] at k1; cases k1; simp [PyData.eqv, PyData.eqvAll]
  | cons d l =>
    unfold D.pys at k1
    cases hd : D.py d with
    | none => rw [hd] at k1; cases k1
    | some pd =>
      cases hl : D.pys l with
      | none => rw [hd, hl] at k1; cases k1
      | some pl' => rw [hd, hl] at k1; cases k1; simp [PyData.eqv, PyData.eqvAll]

end Sf
end

section
set_option Elab.async false
set_option maxRecDepth 100000
set_option linter.all false
set_option maxHeartbeats 4000000
namespace Sf
open PySem L2
/-! small steps -/
theorem orFF {t t' : FT} {env : En} {S S1 S2 : Sto} (h : t env S = .ok false S1) (h' : t' env S1 = .ok false S2) : Sf.tOr t t' env S = .ok false S2 := by rw [x_or, h, x_bind, cond_false, h']
theorem andFF {t t' : FT} {env : En} {S S1 : Sto} (h : t env S = .ok false S1) : Sf.tAnd t t' env S = .ok false S1 := by rw [x_and, h, x_bind, cond_false]
theorem andTT {t t' : FT} {b : Bool} {env : En} {S S1 S2 : Sto} (h : t env S = .ok true S1) (h' : t' env S1 = .ok b S2) : Sf.tAnd t t' env S = .ok b S2 := by rw [x_and, h, x_bind, cond_true, h']
theorem valF {a : FE} {b : Bool} {env : En} {S S1 : Sto} (h : a env S = .ok (.bl b) S1) : tVal a env S = .ok b S1 := by rw [x_val, h, x_bind]
theorem op2F {o : Op2} {a b : FE} {env : En} {S S1 S2 S3 : Sto} {x y z : D} (ha : a env S = .ok x S1) (hb : b env S1 = .ok y S2) (ho : o x y S2 = some (z, S3)) : fOp2 o a b env S = .ok z S3 := by rw [x_op2, ha, x_bind, hb, x_bind, ho, x_outO]
theorem callF {F : Fn} {fs : FA} {env : En} {S S1 S2 : Sto} {ds : List D} {d : D} (h : fs env S = .ok ds S1) (hF : F ds S1 = .ok d S2) : fCall F fs env S = .ok d S2 := by rw [x_call, h, x_bind, hF]
theorem consF {a : FE} {fs : FA} {env : En} {S S1 S2 : Sto} {x : D} {xs : List D} (h : a env S = .ok x S1) (h' : fs env S1 = .ok xs S2) : fCons a fs env S = .ok (x :: xs) S2 := by rw [x_cons, h, x_bind, h', x_bind]
theorem fandT {a b : FE} {env : En} {S S1 S2 : Sto} {d : D} (h : a env S = .ok (.bl true) S1) (h' : b env S1 = .ok d S2) : fAnd a b env S = .ok d S2 := by rw [x_fand, h, x_bind]; exact h'
theorem sIf_no {t : FT} {f g : FS} {env : En} {S S' : Sto} (h : t env S = .ok false S') : sIf t f g env S = g env S' := by rw [x_sif, h]; rfl
theorem sIf_yes {t : FT} {f g : FS} {env : En} {S S' : Sto} (h : t env S = .ok true S') : sIf t f g env S = f env S' := by rw [x_sif, h]; rfl
theorem asgF {i : Nat} {a : FE} {env : En} {S S1 : Sto} {x : D} (h : a env S = .ok x S1) : sAsg i a env S = .nx (env.set i x) S1 := by rw [x_asg, h]; rfl
theorem ifT {t : FT} {a b : FE} {env : En} {S S1 : Sto} (h : t env S = .ok true S1) : fIf t a b env S = a env S1 := by rw [x_if, h]; rfl
theorem ifF {t : FT} {a b : FE} {env : En} {S S1 : Sto} (h : t env S = .ok false S1) : fIf t a b env S = b env S1 := by rw [x_if, h]; rfl
theorem oIne {w : Option Int} {S : Sto} (hw : ∀ k, w = some k → k = 0 ∨ k = 1) : oNe (oI w) (oI w) S = some (.bl false, S) := by
  cases w with
  | none => rfl
  | some k => rcases hw k rfl with rfl | rfl <;> rfl
theorem intNe {k : Int} {S : Sto} : oNe (.int k) (.int k) S = some (.bl false, S) := by rw [x_neI, decide_eq_true rfl]; rfl
theorem opNF0 {o : OpN} {fs : FA} {env : En} {S S1 S2 : Sto} {ds : List D} {d : D} (h : fs env S = .ok ds S1) (ho : o ds S1 = some (d, S2)) : fOpN o fs env S = .ok d S2 := by rw [x_opN, h, x_bind, ho, x_outO]

end Sf
end

section
set_option Elab.async false
set_option maxRecDepth 100000
set_option linter.all false
set_option maxHeartbeats 4000000
namespace Sf
open PySem L2
/-! pairs of scores as keys -/
abbrev Ky := List Pr × List Pr
def kyD (k : Ky) : D := .tup [stD k.1, stD k.2]
def kN (st : List Pr) : NestedKey := .tup (st.map fun p => NestedKey.tup [.num p.1, .num p.2])
theorem key_stN (st : List Pr) : D.key (stD st) = some (kN st) := key_st st
theorem kN_inj {a b : List Pr} (h : kN a = kN b) : a = b := by
  have e1 : keyEq (stD a) (stD b) = keyEq (stD b) (stD b) := by
    unfold keyEq
    rw [key_stN, key_stN, h]
  rw [keyEq_st, keyEq_st, decide_eq_true rfl] at e1
  exact of_decide_eq_true e1
theorem key_ky (k : Ky) : D.key (kyD k) = some (.tup [kN k.1, kN k.2]) := by
  unfold kyD
  unfold D.key
  simp only [D.keys, key_stN]
  rfl
theorem keyEq_ky {a b : Ky} : keyEq (kyD a) (kyD b) = decide (a = b) := by
  unfold keyEq
  rw [key_ky, key_ky]
  simp only
  rw [← NestedKey.decide_eq]
  apply decide_eq_decide.mpr
  constructor
  · intro h
    have h := NestedKey.tup.inj h
    simp only [List.cons.injEq, and_true] at h
    exact Prod.ext (kN_inj h.1) (kN_inj h.2)
  · rintro rfl; rfl
theorem kN_depth (a : List Pr) : NestedKey.depth (kN a) ≤ 2 := by
  have hd : NestedKey.depthAll (a.map fun p => NestedKey.tup [.num p.1, .num p.2]) ≤ 1 := by
    induction a with
    | nil => simp [NestedKey.depthAll]
    | cons p a ih =>
      rw [List.map_cons]
      unfold NestedKey.depthAll
      simp only [NestedKey.depth, NestedKey.depthAll]
      omega
  unfold kN NestedKey.depth
  omega
theorem keyOk_ky {k : Ky} : keyOk (kyD k) = true := by
  unfold keyOk
  rw [key_ky]
  have h1 := kN_depth k.1
  have h2 := kN_depth k.2
  show (true && Nat.ble (NestedKey.depth (.tup _)) 8) = true
  unfold NestedKey.depth
  simp only [NestedKey.depthAll]
  rw [Nat.ble_eq_true_of_le (by omega)]; rfl
/-! rows as sources -/
def kyR (f g : List Lv) (r : List Int) : Ky := (setlM f (playL f r).st, setlM g (playL g r).st)
def valR (f g : List Lv) (r : List Int) : D := match r.getLast? with
  | none => .non
  | some s => .tup [kyD (kyR f g r.dropLast), .int s]
def srcE (f g : List Lv) (R : List (List Int)) : List (D × D) := R.map fun r => (kyD (kyR f g r), valR f g r)
section
variable {f g : List Lv} {R : List (List Int)} {r : List Int} {k : Ky}
theorem valR_nil : valR f g [] = .non := rfl
theorem valR_snoc {q : List Int} {s : Int} : valR f g (q ++ [s]) = .tup [kyD (kyR f g q), .int s] := by unfold valR; simp
theorem getX_no : ∀ {R : List (List Int)}, k ∉ R.map (kyR f g) → getX (srcE f g R) (kyD k) = none
  | [], _ => rfl
  | x :: R, h => by
    simp only [List.map_cons, List.mem_cons, not_or] at h
    have ih := getX_no (R := R) h.2
    unfold getX at ih ⊢
    rw [show srcE f g (x :: R) = (kyD (kyR f g x), valR f g x) :: srcE f g R from rfl, List.find?_cons]
    simp only [keyEq_ky]
    rw [decide_eq_false fun e => h.1 e.symm]
    simp only
    exact ih
theorem getX_yes : ∀ {R : List (List Int)}, (R.map (kyR f g)).Nodup → r ∈ R → getX (srcE f g R) (kyD (kyR f g r)) = some (valR f g r)
  | [], _, h => by simp at h
  | x :: R, hn, h => by
    rw [List.map_cons, List.nodup_cons] at hn
    unfold getX
    rw [show srcE f g (x :: R) = (kyD (kyR f g x), valR f g x) :: srcE f g R from rfl, List.find?_cons]
    simp only [keyEq_ky]
    by_cases e : kyR f g x = kyR f g r
    · rw [decide_eq_true e]
      rcases List.mem_cons.mp h with rfl | h
      · rfl
      · exact absurd (by rw [e]; exact List.mem_map.mpr ⟨r, h, rfl⟩) hn.1
    · rw [decide_eq_false e]
      simp only
      rcases List.mem_cons.mp h with rfl | h
      · exact absurd rfl e
      · have ih := getX_yes (R := R) hn.2 h
        unfold getX at ih
        exact ih
theorem find_ky {q : Nat} {S : Sto} (h : S[q]? = some (.dct false (srcE f g R))) : findD (.loc q) (kyD k) S = some (getX (srcE f g R) (kyD k)) := by
  show (match S[q]? with
    | some (.dct _ kvs) => bif keyOk (kyD k) then some (getX kvs (kyD k)) else none
    | some (.dki _ kvs) => (match kyD k with
      | .int i => some (getI kvs i)
      | _ => none)
    | _ => none) = _
  rw [h]; simp only; rw [keyOk_ky]; rfl
theorem nin_ky {q : Nat} {S : Sto} (hn : (R.map (kyR f g)).Nodup) (h : S[q]? = some (.dct false (srcE f g R))) : oNinX (kyD k) (.loc q) S = some (.bl (!decide (k ∈ R.map (kyR f g))), S) := by
  unfold oNinX
  rw [find_ky h]
  by_cases hk : k ∈ R.map (kyR f g)
  · obtain ⟨r, hr, rfl⟩ := List.mem_map.mp hk
    rw [getX_yes hn hr, decide_eq_true hk]; rfl
  · rw [getX_no hk, decide_eq_false hk]; rfl
theorem set_ky {q : Nat} {S : Sto} {v : D} (h : S[q]? = some (.dct false (srcE f g R))) (hk : k ∉ R.map (kyR f g)) (hl : R.length < 16777216) : setX (.loc q) (kyD k) v S = some (S.set q (.dct false (srcE f g R ++ [(kyD k, v)]))) := by
  show (match S[q]? with
    | some (.dct false kvs) => bif keyOk (kyD k) && fitS kvs.length then some (S.set q (.dct false (putXD kvs (kyD k) v))) else none
    | some (.dki false kvs) => (match kyD k with
      | .int i => bif fitS kvs.length then some (S.set q (.dki false (putI kvs i v))) else none
      | _ => none)
    | _ => none) = _
  rw [h]
  simp only
  have : fitS (srcE f g R).length = true := fitS_of (by unfold srcE; rw [List.length_map]; exact hl)
  rw [keyOk_ky, this]
  simp only [Bool.and_true, cond_true]
  unfold putXD
  rw [getX_no hk]; rfl
theorem get_ky {q : Nat} {S : Sto} (hn : (R.map (kyR f g)).Nodup) (hr : r ∈ R) (h : S[q]? = some (.dct false (srcE f g R))) : oGetX (.loc q) (kyD (kyR f g r)) S = some (valR f g r, S) := by
  unfold oGetX
  rw [find_ky h, getX_yes hn hr]
end
/-! row_to -/
def rtC : FT := (tVal (fOp2 oIsN (fOp2 oGetX (fVar 0) (fVar 1)) (fCon .non)))
def rtB : FS := (sSeq (sAsgT [1, 3] (fOp2 oGetX (fVar 0) (fVar 1)))
    (sExpr (fMethL mAppend (fVar 2) (fCons (fVar 3) (fNil)))))
structure RowsOk (f g : List Lv) (R : List (List Int)) : Prop where
  nd : (R.map (kyR f g)).Nodup
  cl : ∀ q s, q ++ [s] ∈ R → q ∈ R
theorem t_rtW {f g : List Lv} {R : List (List Int)} {S : Sto} {n : Nat} (ho : RowsOk f g R) (h0 : S[0]? = some (.dct false (srcE f g R))) (hn : n = S.length) : ∀ (r : List Int) (fuel : Nat) (acc : List Int) (x3 : D), r ∈ R → r.length < fuel → acc.length + r.length < 16777216 →
    ∃ y1 y3, whileL rtC rtB fuel [.loc 0, kyD (kyR f g r), .loc n, x3] (S ++ [.lst (acc.map D.int)]) = .nx [.loc 0, y1, .loc n, y3] (S ++ [.lst ((acc ++ r.reverse).map D.int)]) := by
  have l0 : 0 < S.length := (List.getElem?_eq_some_iff.mp h0).1
  have hS : ∀ x : Ob, (S ++ [x])[0]? = some (.dct false (srcE f g R)) := fun x => by rw [List.getElem?_append_left l0]; exact h0
  have hN : ∀ x : Ob, (S ++ [x])[n]? = some x := fun x => by rw [hn]; simp
  intro r
  induction r using snoc_ind with
  | h0 =>
    intro fuel acc x3 hr hf _
    obtain ⟨fuel, rfl⟩ : ∃ m, fuel = m + 1 := ⟨fuel - 1, by omega⟩
    have e := get_ky ho.nd hr (hS (.lst (acc.map D.int)))
    refine ⟨kyD (kyR f g []), x3, ?_⟩
    rw [while_end (S2 := S ++ [.lst (acc.map D.int)]) (by
      unfold rtC
      exact valF (op2F (op2F rfl rfl e) rfl rfl))]
    simp
  | h1 q s ih =>
    intro fuel acc x3 hr hf hl
    obtain ⟨fuel, rfl⟩ : ∃ m, fuel = m + 1 := ⟨fuel - 1, by omega⟩
    have e := get_ky ho.nd hr (hS (.lst (acc.map D.int)))
    rw [valR_snoc] at e
    simp only [List.length_append, List.length_singleton] at hf hl
    have hb : rtB [.loc 0, kyD (kyR f g (q ++ [s])), .loc n, x3] (S ++ [.lst (acc.map D.int)]) = .nx [.loc 0, kyD (kyR f g q), .loc n, .int s] (S ++ [.lst ((acc ++ [s]).map D.int)]) := by
      have fl : fitS (acc.map D.int).length = true := fitS_of (by rw [List.length_map]; omega)
      have il : isLs (.loc n) (S ++ [.lst (acc.map D.int)]) = true := isLs_of (hN _)
      have ea : mAppend (.loc n) [.int s] (S ++ [.lst (acc.map D.int)]) = some (.non, S ++ [.lst ((acc ++ [s]).map D.int)]) := by
        rw [x_append, hN]
        simp only
        rw [fl, hn]
        simp
      unfold rtB
      rw [sSeq_nx (e' := [.loc 0, kyD (kyR f g q), .loc n, .int s]) (S' := S ++ [.lst (acc.map D.int)]) (by
        rw [x_asgT, op2F rfl rfl e]; rfl)]
      rw [x_expr]
      have : fMethL mAppend (fVar 2) (fCons (fVar 3) (fNil)) [.loc 0, kyD (kyR f g q), .loc n, .int s] (S ++ [.lst (acc.map D.int)]) = .ok .non (S ++ [.lst ((acc ++ [s]).map D.int)]) := by
        unfold fMethL
        show (bif isLs (.loc n) (S ++ [.lst (acc.map D.int)]) then outO (mAppend (.loc n) [.int s] (S ++ [.lst (acc.map D.int)])) else .bad) = _
        rw [il, ea]; rfl
      rw [this]; rfl
    obtain ⟨y1, y3, e2⟩ := ih fuel (acc ++ [s]) (.int s) (ho.cl q s hr) (by omega) (by simp; omega)
    refine ⟨y1, y3, ?_⟩
    rw [while_go (S2 := S ++ [.lst (acc.map D.int)]) (by
      unfold rtC
      exact valF (op2F (op2F rfl rfl e) rfl rfl)) hb, e2]
    simp
theorem lowD_upS : ∀ {o : Ob} {n : Nat}, lowO 0 o = true → lowO n o = true := fun {o n} h => lowO_up h
/-- a plain value is handed out, what was made is dropped -/
theorem end_plS {n0 n : Nat} {d : D} {S S' : Sto} (hd : pl n d = true) (hn : n < 9) (ht : S.take n0 = S') (hlt : n0 < S.length) (hS : ∀ o ∈ S', lowO 0 o = true) : fnEnd false n0 (.rt d S) = .ok d S' := by
  show (bif Nat.beq S.length n0 then Out.ok d S else match frzD 9 S n0 d with
    | some d' => (bif (S.take n0).all (lowO n0) then Out.ok d' (S.take n0) else .bad)
    | none => .bad) = _
  have hb : Nat.beq S.length n0 = false := by
    cases hb : Nat.beq S.length n0 with
    | false => rfl
    | true => have := Nat.eq_of_beq_eq_true hb; omega
  rw [hb, frz_pl d n 9 hd hn, ht]
  simp only [cond_false]
  have : S'.all (lowO n0) = true := by
    rw [List.all_eq_true]
    exact fun o ho => lowO_up (hS o ho)
  rw [this]; rfl
theorem t_row_to {f g : List Lv} {R : List (List Int)} {S : Sto} {r : List Int} (ho : RowsOk f g R) (h0 : S[0]? = some (.dct false (srcE f g R))) (hS : ∀ o ∈ S, lowO 0 o = true) (hr : r ∈ R) (hl : r.length < 16777216) :
    f_row_to [.loc 0, kyD (kyR f g r)] S = .ok (rowD r) S := by
  obtain ⟨y1, y3, e⟩ := t_rtW ho h0 rfl r 20000000 [] .und hr (by omega) (by simpa using hl)
  unfold f_row_to fn b_row_to
  show fnEnd false S.length (sSeq _ (sSeq (whileL rtC rtB 20000000) _) [.loc 0, kyD (kyR f g r), .und, .und] S) = _
  rw [sSeq_nx (e' := [.loc 0, kyD (kyR f g r), .loc S.length, .und]) (S' := S ++ [.lst []]) (by rfl)]
  have e : whileL rtC rtB 20000000 [.loc 0, kyD (kyR f g r), .loc S.length, .und] (S ++ [.lst []]) = _ := e
  rw [sSeq_nx e]
  have hN : ∀ x : Ob, (S ++ [x])[S.length]? = some x := fun x => by simp
  have er : oRev false (.loc S.length) (S ++ [.lst (([] ++ r.reverse).map D.int)]) = some (rowD r, S ++ [.lst (([] ++ r.reverse).map D.int)]) := by
    unfold oRev
    have : lsR (.loc S.length) (S ++ [.lst (([] ++ r.reverse).map D.int)]) = some (([] ++ r.reverse).map D.int) := by
      show (match (S ++ [Ob.lst (([] ++ r.reverse).map D.int)])[S.length]? with
        | some (Ob.lst l) => some l
        | _ => none) = _
      rw [hN]
    rw [this]
    simp only
    rw [x_mkF, fit_of (by simp; omega)]
    simp
  have e3 : fOp1 (oRev false) (fVar 2) [.loc 0, y1, .loc S.length, y3] (S ++ [.lst (([] ++ r.reverse).map D.int)]) = .ok (rowD r) (S ++ [.lst (([] ++ r.reverse).map D.int)]) := by
    rw [x_op1]
    show outO (oRev false (.loc S.length) (S ++ [.lst (([] ++ r.reverse).map D.int)])) = _
    rw [er]; rfl
  rw [x_ret, e3]
  exact end_plS (n0 := S.length) (d := rowD r) (S' := S) (n := 1) (S := S ++ [.lst (([] ++ r.reverse).map D.int)]) (by show plL 0 _ = true; exact plL_ints r) (by omega) (by simp) (by simp) hS

end Sf
end

section
set_option Elab.async false
set_option maxRecDepth 100000
set_option linter.all false
set_option maxHeartbeats 4000000
namespace Sf
open PySem L2
/-! parting: the plain part -/
theorem setlP_canon {v : Lv} {p q : Pr} (h : Eqp v p q) : setlP v p = setlP v q := by
  rcases h with rfl | ⟨h1, h2, h3, h4⟩
  · rfl
  · obtain ⟨t, l, c⟩ := v
    obtain ⟨a, b⟩ := p
    obtain ⟨a', b'⟩ := q
    simp only at h1 h2 h3 h4
    subst h1
    rcases setlP_cases ⟨t, l, none⟩ (a, b) with ⟨_, h0, e⟩ | ⟨h0, e⟩
    · rcases setlP_cases ⟨t, l, none⟩ (a', b') with ⟨_, k0, e'⟩ | ⟨k0, e'⟩
      · rw [e, e']; apply Prod.ext <;> simp only at h0 k0 ⊢ <;> omega
      · have k0 := k0 rfl
        rw [e, e']; apply Prod.ext <;> simp only at h0 k0 ⊢ <;> omega
    · have h0 := h0 rfl
      rcases setlP_cases ⟨t, l, none⟩ (a', b') with ⟨_, k0, e'⟩ | ⟨k0, e'⟩
      · rw [e, e']; apply Prod.ext <;> simp only at h0 k0 ⊢ <;> omega
      · have k0 := k0 rfl
        rw [e, e']; apply Prod.ext <;> simp only at h0 k0 ⊢ <;> omega
theorem setlM_canon : ∀ {vs : List Lv} {ps qs : List Pr}, Eqs vs ps qs → setlM vs ps = setlM vs qs
  | [], ps, qs, h => by rw [show ps = qs from h]
  | v :: vs, [], [], h => rfl
  | v :: vs, [], q :: qs, h => by simp [Eqs] at h
  | v :: vs, p :: ps, [], h => h.elim
  | v :: vs, p :: ps, q :: qs, h => by
    show setlP v p :: setlM vs ps = setlP v q :: setlM vs qs
    rw [setlP_canon h.1, setlM_canon h.2]
theorem nnl_playP {vs : List Lv} (rs : List Int) : nnl (playL vs rs).st := by
  induction rs using snoc_ind with
  | h0 => intro p hp; have := List.eq_of_mem_replicate hp; subst this; simp
  | h1 rs s ih =>
    rw [playL_snoc]
    unfold stepL
    cases (playL vs rs).w with
    | none => exact ih.after
    | some w => exact ih
theorem okS_play {vs : List Lv} {r : List Int} (hv : ∀ v ∈ vs, v.Ok) (hr : Sides r) (hw : (playL vs r).w = none) : OkS vs (setlM vs (playL vs r).st) := OkS.of hv st_len (live_of hv hr hw) (nnl_playP r)
theorem step_ky {vs : List Lv} {r : List Int} {s : Int} (hs : s = 0 ∨ s = 1) (hw : (playL vs r).w = none) :
    (afterL vs (setlM vs (playL vs r).st) s).2 = (playL vs (r ++ [s])).w ∧ setlM vs (afterL vs (setlM vs (playL vs r).st) s).1 = setlM vs (playL vs (r ++ [s])).st := by
  have e := Eqs.after (Eqs.setl (vs := vs) (ps := (playL vs r).st) st_len) hs
  rw [playL_snoc, stepL_none hw]
  exact ⟨e.1.symm, (setlM_canon e.2).symm⟩
theorem play_end {vs : List Lv} {r q : List Int} {w : Int} (h : (playL vs r).w = some w) : (playL vs (r ++ q)).w = some w := by
  have : playL vs (r ++ q) = runL vs (playL vs r) q := by unfold playL runL; rw [List.foldl_append]
  rw [this, runL_some h, h]
theorem sides_app {a b : List Int} (h : Sides (a ++ b)) : Sides a ∧ Sides b := ⟨fun r hr => h r (List.mem_append_left _ hr), fun r hr => h r (List.mem_append_right _ hr)⟩
theorem sides_snoc {a : List Int} {s : Int} (h : Sides a) (hs : s = 0 ∨ s = 1) : Sides (a ++ [s]) := fun r hr => by
  rcases List.mem_append.mp hr with hr | hr
  · exact h r hr
  · rw [List.mem_singleton.mp hr]; exact hs
section
variable (f g : List Lv)
abbrev same (r : List Int) : Prop := (playL f r).w = (playL g r).w
structure liv (r : List Int) : Prop where
  a : (playL f r).w = none
  b : (playL g r).w = none
  s : Sides r
/-- what parting answers -/
def Parted : Option (List Int) → Prop
  | none => ∀ r, Sides r → same f g r
  | some w => Sides w ∧ w ≠ [] ∧ ¬ same f g w ∧ liv f g w.dropLast ∧ ∀ r, Sides r → r.length < w.length → same f g r
/-- not too many pairs -/
def Few : Prop := ∀ (d : Nat) (l : List (List Int)), (∀ r, Sides r → r.length ≤ d → same f g r) → (l.map (kyR f g)).Nodup → (∀ r ∈ l, liv f g r ∧ r.length ≤ d + 1) → l.length < 16777216
end
section
variable {f g : List Lv}
theorem step2 {r q : List Int} {s : Int} (hs : s = 0 ∨ s = 1) (hr : liv f g r) (hq : liv f g q) (e : kyR f g r = kyR f g q) : (same f g (r ++ [s]) ↔ same f g (q ++ [s])) ∧ ((liv f g (r ++ [s]) → liv f g (q ++ [s])) ∧ kyR f g (r ++ [s]) = kyR f g (q ++ [s])) := by
  have e1 : setlM f (playL f r).st = setlM f (playL f q).st := congrArg Prod.fst e
  have e2 : setlM g (playL g r).st = setlM g (playL g q).st := congrArg Prod.snd e
  have a1 := step_ky (vs := f) hs hr.a
  have a2 := step_ky (vs := f) hs hq.a
  have b1 := step_ky (vs := g) hs hr.b
  have b2 := step_ky (vs := g) hs hq.b
  rw [e1] at a1
  rw [e2] at b1
  refine ⟨?_, fun h => ⟨?_, ?_, sides_snoc hq.s hs⟩, ?_⟩
  · unfold same; rw [← a1.1, ← a2.1, ← b1.1, ← b2.1]
  · rw [← a2.1, a1.1]; exact h.a
  · rw [← b2.1, b1.1]; exact h.b
  · unfold kyR; rw [← a1.2, ← a2.2, ← b1.2, ← b2.2]
theorem liv_pre {r : List Int} {s : Int} (h : liv f g (r ++ [s])) : liv f g r := by
  refine ⟨?_, ?_, (sides_app h.s).1⟩
  · cases e : (playL f r).w with
    | none => rfl
    | some w => have := play_end (q := [s]) e; rw [h.a] at this; cases this
  · cases e : (playL g r).w with
    | none => rfl
    | some w => have := play_end (q := [s]) e; rw [h.b] at this; cases this
/-- a row of the sources is closed: its steps do not part, and are there -/
def Clo (f g : List Lv) (R : List (List Int)) (r : List Int) : Prop := ∀ s, s = 0 ∨ s = 1 → same f g (r ++ [s]) ∧ (liv f g (r ++ [s]) → kyR f g (r ++ [s]) ∈ R.map (kyR f g))
structure BI (f g : List Lv) (d : Nat) (R level : List (List Int)) : Prop where
  ok : RowsOk f g R
  rw' : ∀ r ∈ R, liv f g r ∧ r.length ≤ d
  e : ∀ r, Sides r → r.length ≤ d → same f g r ∧ (liv f g r → kyR f g r ∈ R.map (kyR f g))
  lv : ∀ r ∈ level, r ∈ R ∧ r.length = d
  c : ∀ r ∈ R, r ∈ level ∨ Clo f g R r
theorem Clo.more {R R' : List (List Int)} {r : List Int} (h : Clo f g R r) : Clo f g (R ++ R') r := fun s hs => ⟨(h s hs).1, fun hl => by rw [List.map_append]; exact List.mem_append_left _ ((h s hs).2 hl)⟩
/-- one step further -/
theorem ext_step {R R' : List (List Int)} {n : Nat} (hR : ∀ r ∈ R, liv f g r) (hc : ∀ r ∈ R, Clo f g R' r) (e : ∀ r, Sides r → r.length ≤ n → same f g r ∧ (liv f g r → kyR f g r ∈ R.map (kyR f g))) :
    ∀ r, Sides r → r.length ≤ n + 1 → same f g r ∧ (liv f g r → r.length = n + 1 → kyR f g r ∈ R'.map (kyR f g)) := by
  intro r hs hl
  by_cases h : r.length ≤ n
  · exact ⟨(e r hs h).1, fun _ h' => by omega⟩
  · obtain ⟨q, s, rfl⟩ : ∃ q s, r = q ++ [s] := by
      have hne : r ≠ [] := by rintro rfl; simp at h
      exact ⟨r.dropLast, r.getLast hne, (List.dropLast_concat_getLast hne).symm⟩
    rw [List.length_append, List.length_singleton] at hl h
    obtain ⟨hq, hs'⟩ := sides_app hs
    have hs1 : s = 0 ∨ s = 1 := hs' s (by simp)
    obtain ⟨e1, e2⟩ := e q hq (by omega)
    cases ha : (playL f q).w with
    | some w =>
      have hb : (playL g q).w = some w := by rw [← e1, ha]
      have p1 := play_end (q := [s]) ha
      have p2 := play_end (q := [s]) hb
      refine ⟨by unfold same; rw [p1, p2], fun hl => ?_⟩
      have := hl.a
      rw [p1] at this; cases this
    | none =>
      have hb : (playL g q).w = none := by rw [← e1, ha]
      have lq : liv f g q := ⟨ha, hb, hq⟩
      obtain ⟨x, hx, ex⟩ := List.mem_map.mp (e2 lq)
      have st := step2 hs1 lq (hR x hx) ex.symm
      obtain ⟨c1, c2⟩ := hc x hx s hs1
      refine ⟨st.1.mpr c1, fun hl _ => ?_⟩
      rw [st.2.2]
      exact c2 (st.2.1 hl)
theorem BI.none {d : Nat} {R : List (List Int)} (h : BI f g d R []) : Parted f g none := by
  have hc : ∀ r ∈ R, Clo f g R r := fun r hr => (h.c r hr).resolve_left (by simp)
  have key : ∀ n, ∀ r, Sides r → r.length ≤ d + n → same f g r ∧ (liv f g r → kyR f g r ∈ R.map (kyR f g)) := by
    intro n
    induction n with
    | zero => exact h.e
    | succ n ih =>
      intro r hs hl
      have := ext_step (fun r hr => (h.rw' r hr).1) hc ih r hs (by omega)
      refine ⟨this.1, fun hl' => ?_⟩
      by_cases hn : r.length ≤ d + n
      · exact (ih r hs hn).2 hl'
      · exact this.2 hl' (by omega)
  intro r hs
  exact (key r.length r hs (by omega)).1
/-- in the midst of a level: what came later, the steps that were made -/
structure MI (f g : List Lv) (d : Nat) (R : List (List Int)) (pr : List (List Int × Int)) (lat : List (List Int)) : Prop where
  ok : RowsOk f g (R ++ lat)
  nw : ∀ q ∈ lat, liv f g q ∧ q.length = d + 1
  dn : ∀ x ∈ pr, same f g (x.1 ++ [x.2]) ∧ (liv f g (x.1 ++ [x.2]) → kyR f g (x.1 ++ [x.2]) ∈ (R ++ lat).map (kyR f g))
def prs (l : List (List Int)) : List (List Int × Int) := l.flatMap fun r => [(r, 0), (r, 1)]
theorem MI.next {d : Nat} {R level lat : List (List Int)} (h : BI f g d R level) (m : MI f g d R (prs level) lat) : BI f g (d + 1) (R ++ lat) lat := by
  have hc : ∀ r ∈ R, Clo f g (R ++ lat) r := fun r hr => by
    rcases h.c r hr with hl | hl
    · intro s hs
      exact m.dn (r, s) (List.mem_flatMap.mpr ⟨r, hl, by rcases hs with rfl | rfl <;> simp⟩)
    · exact hl.more
  have st := ext_step (fun r hr => (h.rw' r hr).1) hc h.e
  refine ⟨m.ok, fun r hr => ?_, fun r hs hl => ?_, fun r hr => ⟨List.mem_append_right _ hr, (m.nw r hr).2⟩, fun r hr => ?_⟩
  · rcases List.mem_append.mp hr with hr | hr
    · have := h.rw' r hr; exact ⟨this.1, by omega⟩
    · have := m.nw r hr; exact ⟨this.1, by omega⟩
  · have := st r hs hl
    refine ⟨this.1, fun hl' => ?_⟩
    by_cases hn : r.length ≤ d
    · rw [List.map_append]; exact List.mem_append_left _ ((h.e r hs hn).2 hl')
    · exact this.2 hl' (by omega)
  · rcases List.mem_append.mp hr with hr | hr
    · exact .inr (hc r hr)
    · exact .inl hr
/-- a step is found that parts -/
def Hit (f g : List Lv) (d : Nat) (w : List Int) : Prop := ∃ r s, w = r ++ [s] ∧ liv f g r ∧ r.length = d ∧ (s = 0 ∨ s = 1) ∧ ¬ same f g w
theorem Hit.parted {d : Nat} {R level : List (List Int)} {w : List Int} (h : BI f g d R level) (hw : Hit f g d w) : Parted f g (some w) := by
  obtain ⟨r, s, rfl, hl, hd, hs, hn⟩ := hw
  refine ⟨sides_snoc hl.s hs, by simp, hn, by rw [List.dropLast_concat]; exact hl, fun q hq hlt => ?_⟩
  rw [List.length_append, List.length_singleton] at hlt
  exact (h.e q hq (by omega)).1
theorem MI.add {d : Nat} {R lat : List (List Int)} {pr : List (List Int × Int)} {r : List Int} {s : Int} (m : MI f g d R pr lat) (hr : r ∈ R) (hd : r.length = d) (hl : liv f g (r ++ [s])) (hk : kyR f g (r ++ [s]) ∉ (R ++ lat).map (kyR f g)) :
    MI f g d R (pr ++ [(r, s)]) (lat ++ [r ++ [s]]) := by
  refine ⟨⟨?_, fun q t hq => ?_⟩, fun q hq => ?_, fun x hx => ?_⟩
  · rw [← List.append_assoc, List.map_append, List.nodup_append]
    refine ⟨m.ok.nd, by simp, fun a ha b hb => ?_⟩
    simp only [List.map_cons, List.map_nil, List.mem_singleton] at hb
    subst hb
    rintro rfl
    exact hk ha
  · rw [← List.append_assoc] at hq ⊢
    rcases List.mem_append.mp hq with hq | hq
    · exact List.mem_append_left _ (m.ok.cl q t hq)
    · have e := List.mem_singleton.mp hq
      have := (List.append_inj' e rfl).1
      subst this
      exact List.mem_append_left _ (List.mem_append_left _ hr)
  · rcases List.mem_append.mp hq with hq | hq
    · exact m.nw q hq
    · rw [List.mem_singleton.mp hq]; exact ⟨hl, by simp [hd]⟩
  · have mono : ∀ k, k ∈ (R ++ lat).map (kyR f g) → k ∈ (R ++ (lat ++ [r ++ [s]])).map (kyR f g) := fun k hk => by
      rw [← List.append_assoc, List.map_append]; exact List.mem_append_left _ hk
    rcases List.mem_append.mp hx with hx | hx
    · exact ⟨(m.dn x hx).1, fun hl => mono _ ((m.dn x hx).2 hl)⟩
    · rw [List.mem_singleton.mp hx]
      refine ⟨by unfold same; rw [hl.a, hl.b], fun _ => ?_⟩
      exact List.mem_map.mpr ⟨r ++ [s], by simp, rfl⟩
theorem MI.skip {d : Nat} {R lat : List (List Int)} {pr : List (List Int × Int)} {r : List Int} {s : Int} (m : MI f g d R pr lat) (h1 : same f g (r ++ [s])) (h2 : liv f g (r ++ [s]) → kyR f g (r ++ [s]) ∈ (R ++ lat).map (kyR f g)) :
    MI f g d R (pr ++ [(r, s)]) lat := by
  refine ⟨m.ok, m.nw, fun x hx => ?_⟩
  rcases List.mem_append.mp hx with hx | hx
  · exact m.dn x hx
  · rw [List.mem_singleton.mp hx]; exact ⟨h1, h2⟩
end

end Sf
end

section
set_option Elab.async false
set_option maxRecDepth 100000
set_option linter.all false
set_option maxHeartbeats 4000000
namespace Sf
open PySem L2
/-! parting that hands out a new list: the run -/
abbrev rtN (w : List Int) (S' : Sto) : SR := .rt (.loc S'.length) (S' ++ [.lst (w.map D.int)])
theorem add_rowN {l m : List Int} {S : Sto} (h : l.length + m.length ≤ 16777216) : oAdd true (rowD l) (rowD m) S = some (.loc S.length, S ++ [.lst ((l ++ m).map D.int)]) := by
  show mkL true (l.map D.int ++ m.map D.int) S = _
  rw [x_mkT, fit_of (by simp; omega), ← List.map_append]; rfl
abbrev kk (f g : List Lv) (r : List Int) : D := kyD (kyR f g r)
def ptB : FS := (sSeq (sPar2 8 9 (fCons (fCall (pureF f_after) (fCons (fVar 0) (fCons (fOp2 oIx (fVar 6) (fCon (.int 0))) (fCons (fVar 7) (fNil))))) (fCons (fCall (pureF f_after) (fCons (fVar 1) (fCons (fOp2 oIx (fVar 6) (fCon (.int 1))) (fCons (fVar 7) (fNil))))) (fNil))))
    (sSeq (sIf (tVal (fOp2 oNe (fOp2 oIx (fVar 8) (fCon (.int 1))) (fOp2 oIx (fVar 9) (fCon (.int 1))))) (sRet (fOp2 (oAdd true) (fCall f_row_to (fCons (fVar 3) (fCons (fVar 6) (fNil)))) (fLst false (fCons (fVar 7) (fNil))))) (sSkip))
    (sSeq (sAsg 10 (fTup (fCons (fCall (pureF f_settled) (fCons (fVar 0) (fCons (fOp2 oIx (fVar 8) (fCon (.int 0))) (fNil)))) (fCons (fCall (pureF f_settled) (fCons (fVar 1) (fCons (fOp2 oIx (fVar 9) (fCon (.int 0))) (fNil)))) (fNil)))))
    (sIf (Sf.tAnd (tVal (fOp2 oIs (fOp2 oIx (fVar 8) (fCon (.int 1))) (fCon .non))) (tVal (fOp2 oNinX (fVar 10) (fVar 3)))) (sSeq (sAsgX (fTup (fCons (fVar 6) (fCons (fVar 7) (fNil)))) (fVar 3) (fVar 10))
    (sExpr (fMethL mAppend (fVar 5) (fCons (fVar 10) (fNil))))) (sSkip)))))
def ptL : FS := (sFor (iSq (fTup (fCons (fCon (.int 0)) (fCons (fCon (.int 1)) (fNil))))) (tgName 7) ptB)
def ptW : FS := (sSeq (sAsg 5 (fLst true (fNil)))
    (sSeq (sForD (fVar 4) (tgName 6) ptL)
    (sAsg 4 (fVar 5))))
def ptC : FT := (tVal (fOp2 oNe (fVar 4) (fLst false (fNil))))
theorem neOI {a b : Option Int} {S : Sto} : oNe (oI a) (oI b) S = some (.bl (!decide (a = b)), S) := by
  cases a <;> cases b <;> simp
theorem add_rowF {l m : List Int} {S : Sto} (h : l.length + m.length ≤ 16777216) : oAdd false (rowD l) (rowD m) S = some (rowD (l ++ m), S) := by
  show mkL false (l.map D.int ++ m.map D.int) S = _
  rw [x_mkF, fit_of (by simp; omega), ← List.map_append]; rfl
theorem low_ky (k : Ky) : lowD 0 (kyD k) = true := by
  show (lowL 0 (k.1.map prD) && (lowL 0 (k.2.map prD) && true)) = true
  rw [low_prs, low_prs]; rfl
theorem low_val {f g : List Lv} {r : List Int} : lowD 0 (valR f g r) = true := by
  unfold valR
  cases r.getLast? with
  | none => rfl
  | some s =>
    show (lowD 0 (kyD (kyR f g r.dropLast)) && true) = true
    rw [low_ky]; rfl
theorem low_src {f g : List Lv} {R : List (List Int)} : lowO 0 (.dct false (srcE f g R)) = true := by
  show ((srcE f g R).all fun p => lowD 0 p.1 && lowD 0 p.2) = true
  rw [List.all_eq_true]
  intro p hp
  obtain ⟨x, hx, rfl⟩ := List.mem_map.mp hp
  show (lowD 0 (kyD (kyR f g x)) && lowD 0 (valR f g x)) = true
  rw [low_ky, low_val]; rfl
theorem low_kys {f g : List Lv} {l : List (List Int)} : lowO 0 (.lst (l.map (kk f g))) = true := lowL_map (kk f g) (fun x => low_ky _) l
theorem srcE_snoc {f g : List Lv} {R lat : List (List Int)} {r : List Int} {s : Int} : srcE f g (R ++ lat) ++ [(kyD (kyR f g (r ++ [s])), .tup [kk f g r, .int s])] = srcE f g (R ++ (lat ++ [r ++ [s]])) := by
  unfold srcE
  rw [← List.append_assoc, List.map_append, List.map_append (l₁ := R ++ lat)]
  simp [valR_snoc]
structure PIn (f g : List Lv) (m : Nat) (R lat : List (List Int)) (S0 S : Sto) : Prop where
  s0 : S[0]? = some (.dct false (srcE f g (R ++ lat)))
  sm : S[m]? = some (.lst (lat.map (kk f g)))
  o : ∀ n, n ≠ 0 → n ≠ m → S[n]? = S0[n]?
  len : S.length = S0.length
  low : ∀ o ∈ S, lowO 0 o = true
section
variable {f g : List Lv} {m d : Nat} {x2 x4 : D} {R lat : List (List Int)} {S0 S : Sto} {pr : List (List Int × Int)}
theorem t_ptB {r : List Int} {s : Int} {x8 x9 x10 : D} (hf : Form f) (hg : Form g) (hm : m ≠ 0) (hr : r ∈ R) (hl : liv f g r) (hd : r.length = d) (hdl : d < 16777215) (hs : s = 0 ∨ s = 1) (M : MI f g d R pr lat) (hb : (R ++ lat).length < 16777216) (h : PIn f g m R lat S0 S) :
    (¬ same f g (r ++ [s]) ∧ ∃ S', ptB [formD f, formD g, x2, .loc 0, x4, .loc m, kk f g r, .int s, x8, x9, x10] S = rtN (r ++ [s]) S') ∨
    (∃ y8 y9 y10 S' lat', ptB [formD f, formD g, x2, .loc 0, x4, .loc m, kk f g r, .int s, x8, x9, x10] S = .nx [formD f, formD g, x2, .loc 0, x4, .loc m, kk f g r, .int s, y8, y9, y10] S' ∧ PIn f g m R lat' S0 S' ∧ MI f g d R (pr ++ [(r, s)]) lat') := by
  obtain ⟨s0, sm, o, len, low⟩ := h
  have vf : f.length ≤ 1000 := by have := hf.2.1; omega
  have vg : g.length ≤ 1000 := by have := hg.2.1; omega
  have ok1 := okS_play hf.2.2 hl.s hl.a
  have ok2 := okS_play hg.2.2 hl.s hl.b
  have A := step_ky (vs := f) hs hl.a
  have B := step_ky (vs := g) hs hl.b
  have ea1 := fun S => t_after (S := S) (s := s) vf ok1.len
  have ea2 := fun S => t_after (S := S) (s := s) vg ok2.len
  rw [(live.step ok1.lv hf.2.2 hs).1, A.1] at ea1
  rw [(live.step ok2.lv hg.2.2 hs).1, B.1] at ea2
  have es1 := fun S => t_settled (vs := f) (ps := (afterL f (setlM f (playL f r).st) s).1) (S := S) (by have := hf.2.1; omega) (by rw [afterL_len]; exact ok1.len)
  have es2 := fun S => t_settled (vs := g) (ps := (afterL g (setlM g (playL g r).st) s).1) (S := S) (by have := hg.2.1; omega) (by rw [afterL_len]; exact ok2.len)
  rw [A.2] at es1
  rw [B.2] at es2
  generalize hw1 : (playL f (r ++ [s])).w = w1 at ea1
  generalize hw2 : (playL g (r ++ [s])).w = w2 at ea2
  generalize (afterL f (setlM f (playL f r).st) s).1 = A1 at ea1 es1
  generalize (afterL g (setlM g (playL g r).st) s).1 = A2 at ea2 es2
  have s1 : sPar2 8 9 (fCons (fCall (pureF f_after) (fCons (fVar 0) (fCons (fOp2 oIx (fVar 6) (fCon (.int 0))) (fCons (fVar 7) (fNil))))) (fCons (fCall (pureF f_after) (fCons (fVar 1) (fCons (fOp2 oIx (fVar 6) (fCon (.int 1))) (fCons (fVar 7) (fNil))))) (fNil))) [formD f, formD g, x2, .loc 0, x4, .loc m, kk f g r, .int s, x8, x9, x10] S
      = .nx [formD f, formD g, x2, .loc 0, x4, .loc m, kk f g r, .int s, .tup [stD A1, oI w1], .tup [stD A2, oI w2], x10] S := by
    rw [x_par2, consF (callF (consF rfl (consF (op2F rfl rfl rfl) (consF rfl x_nil))) (ea1 _)) (consF (callF (consF rfl (consF (op2F rfl rfl rfl) (consF rfl x_nil))) (ea2 _)) x_nil)]; rfl
  have t2 : tVal (fOp2 oNe (fOp2 oIx (fVar 8) (fCon (.int 1))) (fOp2 oIx (fVar 9) (fCon (.int 1)))) [formD f, formD g, x2, .loc 0, x4, .loc m, kk f g r, .int s, .tup [stD A1, oI w1], .tup [stD A2, oI w2], x10] S = .ok (!decide (w1 = w2)) S :=
    valF (op2F (op2F rfl rfl rfl) (op2F rfl rfl rfl) neOI)
  unfold ptB
  rw [sSeq_nx s1]
  by_cases hw : w1 = w2
  · right
    rw [decide_eq_true hw] at t2
    have hsame : same f g (r ++ [s]) := by unfold same; rw [hw1, hw2, hw]
    rw [sSeq_nx (e' := [formD f, formD g, x2, .loc 0, x4, .loc m, kk f g r, .int s, .tup [stD A1, oI w1], .tup [stD A2, oI w2], x10]) (S' := S) (by rw [sIf_no t2]; rfl)]
    rw [sSeq_nx (e' := [formD f, formD g, x2, .loc 0, x4, .loc m, kk f g r, .int s, .tup [stD A1, oI w1], .tup [stD A2, oI w2], kk f g (r ++ [s])]) (S' := S) (by
      refine asgF ?_
      rw [x_tup, consF (callF (consF rfl (consF (op2F rfl rfl rfl) x_nil)) (es1 _)) (consF (callF (consF rfl (consF (op2F rfl rfl rfl) x_nil)) (es2 _)) x_nil)]; rfl)]
    have t3 : tVal (fOp2 oIs (fOp2 oIx (fVar 8) (fCon (.int 1))) (fCon .non)) [formD f, formD g, x2, .loc 0, x4, .loc m, kk f g r, .int s, .tup [stD A1, oI w1], .tup [stD A2, oI w2], kk f g (r ++ [s])] S = .ok (isNon (oI w1)) S :=
      valF (op2F (op2F rfl rfl rfl) rfl rfl)
    have t4 : tVal (fOp2 oNinX (fVar 10) (fVar 3)) [formD f, formD g, x2, .loc 0, x4, .loc m, kk f g r, .int s, .tup [stD A1, oI w1], .tup [stD A2, oI w2], kk f g (r ++ [s])] S = .ok (!decide (kyR f g (r ++ [s]) ∈ (R ++ lat).map (kyR f g))) S :=
      valF (op2F rfl rfl (nin_ky M.ok.nd s0))
    cases w1 with
    | some w =>
      refine ⟨.tup [stD A1, oI (some w)], .tup [stD A2, oI w2], kk f g (r ++ [s]), S, lat, ?_, ⟨s0, sm, o, len, low⟩, M.skip hsame fun hl' => ?_⟩
      · rw [sIf_no (andFF t3)]; rfl
      · have := hl'.a; rw [hw1] at this; cases this
    | none =>
      subst hw
      have hl' : liv f g (r ++ [s]) := ⟨hw1, hw2, sides_snoc hl.s hs⟩
      by_cases hk : kyR f g (r ++ [s]) ∈ (R ++ lat).map (kyR f g)
      · rw [decide_eq_true hk] at t4
        refine ⟨.tup [stD A1, oI none], .tup [stD A2, oI none], kk f g (r ++ [s]), S, lat, ?_, ⟨s0, sm, o, len, low⟩, M.skip hsame fun _ => hk⟩
        rw [sIf_no (andTT t3 t4)]; rfl
      · rw [decide_eq_false hk] at t4
        have l0 : 0 < S.length := (List.getElem?_eq_some_iff.mp s0).1
        have lm : m < S.length := (List.getElem?_eq_some_iff.mp sm).1
        have e1 := set_ky (v := .tup [kk f g r, .int s]) s0 hk hb
        rw [srcE_snoc] at e1
        have q0 : (S.set 0 (.dct false (srcE f g (R ++ (lat ++ [r ++ [s]])))))[0]? = some (.dct false (srcE f g (R ++ (lat ++ [r ++ [s]])))) := List.getElem?_set_self l0
        have qm : (S.set 0 (.dct false (srcE f g (R ++ (lat ++ [r ++ [s]])))))[m]? = some (.lst (lat.map (kk f g))) := by rw [List.getElem?_set_ne (Ne.symm hm)]; exact sm
        have ql : (S.set 0 (.dct false (srcE f g (R ++ (lat ++ [r ++ [s]]))))).length = S.length := by simp
        have qo : ∀ n, n ≠ 0 → n ≠ m → (S.set 0 (.dct false (srcE f g (R ++ (lat ++ [r ++ [s]])))))[n]? = S0[n]? := fun n a b => by rw [List.getElem?_set_ne (Ne.symm a)]; exact o n a b
        have qw : ∀ o ∈ (S.set 0 (.dct false (srcE f g (R ++ (lat ++ [r ++ [s]]))))), lowO 0 o = true := fun o ho => by
          rcases List.mem_or_eq_of_mem_set ho with h | h
          · exact low o h
          · rw [h]; exact low_src
        generalize S.set 0 (.dct false (srcE f g (R ++ (lat ++ [r ++ [s]])))) = S1 at e1 q0 qm ql qo qw
        have fl : fitS (lat.map (kk f g)).length = true := fitS_of (by rw [List.length_map]; rw [List.length_append] at hb; omega)
        have il : isLs (.loc m) S1 = true := isLs_of qm
        have ap : mAppend (.loc m) [kk f g (r ++ [s])] S1 = some (.non, S1.set m (.lst ((lat ++ [r ++ [s]]).map (kk f g)))) := by
          rw [x_append, qm]; simp only; rw [fl]; simp
        refine ⟨.tup [stD A1, oI none], .tup [stD A2, oI none], kk f g (r ++ [s]), S1.set m (.lst ((lat ++ [r ++ [s]]).map (kk f g))), lat ++ [r ++ [s]], ?_, ⟨?_, ?_, ?_, ?_, ?_⟩, M.add hr hd hl' hk⟩
        · rw [sIf_yes (andTT t3 t4), sSeq_nx (e' := [formD f, formD g, x2, .loc 0, x4, .loc m, kk f g r, .int s, .tup [stD A1, oI none], .tup [stD A2, oI none], kk f g (r ++ [s])]) (S' := S1) (by
            show ((fTup (fCons (fVar 6) (fCons (fVar 7) (fNil))) [formD f, formD g, x2, .loc 0, x4, .loc m, kk f g r, .int s, .tup [stD A1, oI none], .tup [stD A2, oI none], kk f g (r ++ [s])] S).bindS fun x S1 => (Out.ok (D.loc 0) S1).bindS fun o S2 => (Out.ok (kk f g (r ++ [s])) S2).bindS fun i S3 => match setX o i x S3 with
              | some S4 => .nx _ S4
              | none => .bad) = _
            have e2 : fTup (fCons (fVar 6) (fCons (fVar 7) (fNil))) [formD f, formD g, x2, .loc 0, x4, .loc m, kk f g r, .int s, .tup [stD A1, oI none], .tup [stD A2, oI none], kk f g (r ++ [s])] S = .ok (.tup [kk f g r, .int s]) S := rfl
            rw [e2, x_bindS, x_bindS, x_bindS, e1])]
          rw [x_expr]
          have e3 : fMethL mAppend (fVar 5) (fCons (fVar 10) (fNil)) [formD f, formD g, x2, .loc 0, x4, .loc m, kk f g r, .int s, .tup [stD A1, oI none], .tup [stD A2, oI none], kk f g (r ++ [s])] S1 = .ok .non (S1.set m (.lst ((lat ++ [r ++ [s]]).map (kk f g)))) := by
            unfold fMethL
            show (bif isLs (.loc m) S1 then outO (mAppend (.loc m) [kk f g (r ++ [s])] S1) else .bad) = _
            rw [il, ap]; rfl
          rw [e3]; rfl
        · rw [List.getElem?_set_ne hm]; exact q0
        · rw [List.getElem?_set_self (by omega)]
        · intro n a b; rw [List.getElem?_set_ne (Ne.symm b)]; exact qo n a b
        · simp [ql, len]
        · intro o ho
          rcases List.mem_or_eq_of_mem_set ho with h | h
          · exact qw o h
          · rw [h]; exact low_kys
  · left
    rw [decide_eq_false hw] at t2
    refine ⟨fun h => hw (by rw [← hw1, ← hw2]; exact h), S, ?_⟩
    have er := t_row_to (S := S) M.ok s0 low (List.mem_append_left _ hr) (by omega)
    rw [x_seq, sIf_yes t2, x_ret, op2F (callF (consF rfl (consF rfl x_nil)) er) (y := rowD [s]) (S2 := S) (by rfl) (add_rowN (by simp; omega))]
    rfl
theorem t_ptL {r : List Int} {x7 x8 x9 x10 : D} (hf : Form f) (hg : Form g) (hm : m ≠ 0) (hr : r ∈ R) (hl : liv f g r) (hd : r.length = d) (hdl : d < 16777215) (hB : ∀ pr lat, MI f g d R pr lat → (R ++ lat).length < 16777216) (M : MI f g d R pr lat) (h : PIn f g m R lat S0 S) :
    (∃ w S', ptL [formD f, formD g, x2, .loc 0, x4, .loc m, kk f g r, x7, x8, x9, x10] S = rtN w S' ∧ Hit f g d w) ∨
    (∃ y7 y8 y9 y10 S' lat', ptL [formD f, formD g, x2, .loc 0, x4, .loc m, kk f g r, x7, x8, x9, x10] S = .nx [formD f, formD g, x2, .loc 0, x4, .loc m, kk f g r, y7, y8, y9, y10] S' ∧ PIn f g m R lat' S0 S' ∧ MI f g d R (pr ++ [(r, 0), (r, 1)]) lat') := by
  have it : ptL [formD f, formD g, x2, .loc 0, x4, .loc m, kk f g r, x7, x8, x9, x10] S = forL (tgName 7) ptB [.int 0, .int 1] [formD f, formD g, x2, .loc 0, x4, .loc m, kk f g r, x7, x8, x9, x10] S := rfl
  rw [it, forL_cons (env1 := [formD f, formD g, x2, .loc 0, x4, .loc m, kk f g r, .int 0, x8, x9, x10]) rfl]
  rcases t_ptB (x2 := x2) (x4 := x4) (x8 := x8) (x9 := x9) (x10 := x10) hf hg hm hr hl hd hdl (.inl rfl) M (hB _ _ M) h with ⟨n, S', e⟩ | ⟨y8, y9, y10, S1, lat1, e, h1, M1⟩
  · exact .inl ⟨_, S', by rw [e]; rfl, r, 0, rfl, hl, hd, .inl rfl, n⟩
  · rw [e]
    show (∃ w S', forL (tgName 7) ptB [.int 1] _ S1 = rtN w S' ∧ Hit f g d w) ∨ (∃ y7 y8 y9 y10 S' lat', forL (tgName 7) ptB [.int 1] _ S1 = _ ∧ _)
    rw [forL_cons (env1 := [formD f, formD g, x2, .loc 0, x4, .loc m, kk f g r, .int 1, y8, y9, y10]) rfl]
    rcases t_ptB (x2 := x2) (x4 := x4) (x8 := y8) (x9 := y9) (x10 := y10) hf hg hm hr hl hd hdl (.inr rfl) M1 (hB _ _ M1) h1 with ⟨n, S', e2⟩ | ⟨z8, z9, z10, S2, lat2, e2, h2, M2⟩
    · exact .inl ⟨_, S', by rw [e2]; rfl, r, 1, rfl, hl, hd, .inr rfl, n⟩
    · refine .inr ⟨.int 1, z8, z9, z10, S2, lat2, by rw [e2]; rfl, h2, ?_⟩
      rw [List.append_assoc] at M2
      exact M2
theorem t_ptF (hf : Form f) (hg : Form g) (hm : m ≠ 0) (hdl : d < 16777215) (hB : ∀ pr lat, MI f g d R pr lat → (R ++ lat).length < 16777216) : ∀ (l : List (List Int)) (pr : List (List Int × Int)) (lat : List (List Int)) (x6 x7 x8 x9 x10 : D) (S : Sto), (∀ r ∈ l, r ∈ R ∧ liv f g r ∧ r.length = d) → MI f g d R pr lat → PIn f g m R lat S0 S →
    (∃ w S', forL (tgName 6) ptL (l.map (kk f g)) [formD f, formD g, x2, .loc 0, x4, .loc m, x6, x7, x8, x9, x10] S = rtN w S' ∧ Hit f g d w) ∨
    (∃ y6 y7 y8 y9 y10 S' lat', forL (tgName 6) ptL (l.map (kk f g)) [formD f, formD g, x2, .loc 0, x4, .loc m, x6, x7, x8, x9, x10] S = .nx [formD f, formD g, x2, .loc 0, x4, .loc m, y6, y7, y8, y9, y10] S' ∧ PIn f g m R lat' S0 S' ∧ MI f g d R (pr ++ prs l) lat')
  | [], pr, lat, x6, x7, x8, x9, x10, S, _, M, h => .inr ⟨x6, x7, x8, x9, x10, S, lat, rfl, h, by unfold prs; simpa using M⟩
  | r :: l, pr, lat, x6, x7, x8, x9, x10, S, hl, M, h => by
    obtain ⟨h1, h2, h3⟩ := hl r (by simp)
    rw [List.map_cons, forL_cons (env1 := [formD f, formD g, x2, .loc 0, x4, .loc m, kk f g r, x7, x8, x9, x10]) rfl]
    rcases t_ptL (x2 := x2) (x4 := x4) (x7 := x7) (x8 := x8) (x9 := x9) (x10 := x10) hf hg hm h1 h2 h3 hdl hB M h with ⟨w, S', e, n⟩ | ⟨y7, y8, y9, y10, S1, lat1, e, p1, M1⟩
    · exact .inl ⟨w, S', by rw [e]; rfl, n⟩
    · rw [e]
      rcases t_ptF hf hg hm hdl hB l (pr ++ [(r, 0), (r, 1)]) lat1 (kk f g r) y7 y8 y9 y10 S1 (fun q hq => hl q (by simp [hq])) M1 p1 with ⟨w, S', e, n⟩ | ⟨z6, z7, z8, z9, z10, S2, lat2, e, p2, M2⟩
      · exact .inl ⟨w, S', e, n⟩
      · refine .inr ⟨z6, z7, z8, z9, z10, S2, lat2, e, p2, ?_⟩
        rw [List.append_assoc] at M2
        exact M2
theorem forV_rt {g : D → En → Option En} {b : FS} {n k i : Nat} {env env1 : En} {S S' : Sto} {l : List D} {d e : D} (h : S[n]? = some (.lst l)) (hd : l[i]? = some d) (h1 : g d env = some env1) (h2 : b env1 S = .rt e S') :
    forV g b n (k + 1) i env S = .rt e S' := by
  show (match S[n]? with
    | some (.lst l) => match l[i]? with
      | some d => match g d env with
        | none => SR.bad
        | some env1 => match b env1 S with
          | .nx env' S' => forV g b n k (i + 1) env' S'
          | .ct env' S' => forV g b n k (i + 1) env' S'
          | .bk env' S' => .nx env' S'
          | r => r
      | none => .nx env S
    | _ => .bad) = _
  rw [h]; simp only; rw [hd]; simp only; rw [h1]; simp only; rw [h2]
theorem t_ptV {n : Nat} {L : List (List Int)} (hf : Form f) (hg : Form g) (hm : m ≠ 0) (hn0 : n ≠ 0) (hnm : n ≠ m) (hL : S0[n]? = some (.lst (L.map (kk f g)))) (hdl : d < 16777215) (hB : ∀ pr lat, MI f g d R pr lat → (R ++ lat).length < 16777216) (hl : ∀ r ∈ L, r ∈ R ∧ liv f g r ∧ r.length = d) : ∀ (l done : List (List Int)) (pr : List (List Int × Int)) (lat : List (List Int)) (x6 x7 x8 x9 x10 : D) (S : Sto), L = done ++ l → MI f g d R pr lat → PIn f g m R lat S0 S →
    (∃ w S', forV (tgName 6) ptL n (l.length + 1) done.length [formD f, formD g, x2, .loc 0, x4, .loc m, x6, x7, x8, x9, x10] S = rtN w S' ∧ Hit f g d w) ∨
    (∃ y6 y7 y8 y9 y10 S' lat', forV (tgName 6) ptL n (l.length + 1) done.length [formD f, formD g, x2, .loc 0, x4, .loc m, x6, x7, x8, x9, x10] S = .nx [formD f, formD g, x2, .loc 0, x4, .loc m, y6, y7, y8, y9, y10] S' ∧ PIn f g m R lat' S0 S' ∧ MI f g d R (pr ++ prs l) lat')
  | [], done, pr, lat, x6, x7, x8, x9, x10, S, hd, M, h => by
    have hS : S[n]? = some (.lst (L.map (kk f g))) := by rw [h.o n hn0 hnm]; exact hL
    refine .inr ⟨x6, x7, x8, x9, x10, S, lat, forV_end hS ?_, h, by unfold prs; simpa using M⟩
    rw [hd]; simp
  | r :: l, done, pr, lat, x6, x7, x8, x9, x10, S, hd, M, h => by
    have hS : S[n]? = some (.lst (L.map (kk f g))) := by rw [h.o n hn0 hnm]; exact hL
    have hi : (L.map (kk f g))[done.length]? = some (kk f g r) := by rw [hd]; simp
    obtain ⟨h1, h2, h3⟩ := hl r (by rw [hd]; simp)
    rcases t_ptL (x2 := x2) (x4 := x4) (x7 := x7) (x8 := x8) (x9 := x9) (x10 := x10) hf hg hm h1 h2 h3 hdl hB M h with ⟨w, S', e, nn⟩ | ⟨y7, y8, y9, y10, S1, lat1, e, p1, M1⟩
    · exact .inl ⟨w, S', forV_rt (env1 := [formD f, formD g, x2, .loc 0, x4, .loc m, kk f g r, x7, x8, x9, x10]) hS hi rfl e, nn⟩
    · have ih := t_ptV hf hg hm hn0 hnm hL hdl hB hl l (done ++ [r]) (pr ++ [(r, 0), (r, 1)]) lat1 (kk f g r) y7 y8 y9 y10 S1 (by rw [hd]; simp) M1 p1
      rw [List.length_append, List.length_singleton] at ih
      rw [List.length_cons, forV_go (env1 := [formD f, formD g, x2, .loc 0, x4, .loc m, kk f g r, x7, x8, x9, x10]) hS hi rfl e]
      rcases ih with ⟨w, S', e, nn⟩ | ⟨z6, z7, z8, z9, z10, S2, lat2, e, p2, M2⟩
      · exact .inl ⟨w, S', e, nn⟩
      · refine .inr ⟨z6, z7, z8, z9, z10, S2, lat2, e, p2, ?_⟩
        rw [List.append_assoc] at M2
        exact M2
end

end Sf
end

section
set_option Elab.async false
set_option maxRecDepth 100000
set_option linter.all false
set_option maxHeartbeats 4000000
namespace Sf
open PySem L2
/-! parting: the whole -/
theorem var_atP {env : En} {i : Nat} {d : D} {S : Sto} (h : env[i]? = some d) (hn : d ≠ .und) : fVar i env S = .ok d S := by
  unfold fVar; rw [h]; cases d <;> first | rfl | exact absurd rfl hn
theorem while_rt {c : FT} {b : FS} {m : Nat} {env : En} {S S' S2 : Sto} {d : D} (h : c env S = .ok true S2) (h2 : b env S2 = .rt d S') : whileL c b (m + 1) env S = .rt d S' := by
  show ((c env S).bindS fun x S1 => bif x then (match b env S1 with
    | .nx env' S' => whileL c b m env' S'
    | .ct env' S' => whileL c b m env' S'
    | .bk env' S' => .nx env' S'
    | r => r) else .nx env S1) = _
  rw [h, x_bindS, cond_true, h2]
theorem take_in {f g : List Lv} {R : List (List Int)} (ho : RowsOk f g R) : ∀ (r : List Int), r ∈ R → ∀ i, i ≤ r.length → r.take i ∈ R := by
  intro r
  induction r using snoc_ind with
  | h0 => intro hr i _; simpa using hr
  | h1 q s ih =>
    intro hr i hi
    rw [List.length_append, List.length_singleton] at hi
    by_cases h : i ≤ q.length
    · rw [List.take_append_of_le_length h]
      exact ih (ho.cl q s hr) i h
    · rw [List.take_of_length_le (by simp; omega)]; exact hr
theorem len_in {f g : List Lv} {R : List (List Int)} (ho : RowsOk f g R) {r : List Int} (hr : r ∈ R) : r.length < R.length := by
  have hn : ((List.range (r.length + 1)).map fun i => r.take i).Nodup := by
    show List.Pairwise _ _
    rw [List.pairwise_map]
    refine (List.pairwise_lt_range (n := r.length + 1)).imp_of_mem fun {a b} ha hb hlt e => ?_
    rw [List.mem_range] at ha hb
    have := congrArg List.length e
    rw [List.length_take, List.length_take] at this
    omega
  have := nodup_le hn fun x hx => by
    obtain ⟨i, hi, rfl⟩ := List.mem_map.mp hx
    rw [List.mem_range] at hi
    exact take_in ho r hr i (by omega)
  rw [List.length_map, List.length_range] at this
  omega
theorem pl_kk {f g : List Lv} {l : List (List Int)} : plL 3 (l.map (kk f g)) = true := plL_map (kk f g) (fun x => by
  show plL 2 [stD _, stD _] = true
  rw [plL_cons, plL_cons, plL_nil]
  show (plL 1 _ && (plL 1 _ && true)) = true
  rw [pl_st, pl_st]; rfl) l
section
variable {f g : List Lv} {x2 : D}
theorem t_ptWhile (hf : Form f) (hg : Form g) (few : Few f g) : ∀ (fuel d : Nat) (R level : List (List Int)) (x4 x5 x6 x7 x8 x9 x10 : D) (S : Sto), BI f g d R level → S[0]? = some (.dct false (srcE f g R)) →
    (x4 = .lst (level.map (kk f g)) ∨ ∃ n, x4 = .loc n ∧ n ≠ 0 ∧ S[n]? = some (.lst (level.map (kk f g)))) → (∀ o ∈ S, lowO 0 o = true) → (level = [] → 1 ≤ fuel) → (level ≠ [] → 16777218 ≤ fuel + R.length) →
    (Parted f g none ∧ ∃ env' S', whileL ptC ptW fuel [formD f, formD g, x2, .loc 0, x4, x5, x6, x7, x8, x9, x10] S = .nx env' S') ∨
    (∃ w S', Parted f g (some w) ∧ w.length < 16777216 ∧ whileL ptC ptW fuel [formD f, formD g, x2, .loc 0, x4, x5, x6, x7, x8, x9, x10] S = rtN w S') := by
  intro fuel
  induction fuel with
  | zero =>
    intro d R level x4 x5 x6 x7 x8 x9 x10 S h _ _ _ h1 h2
    by_cases hl : level = []
    · have := h1 hl; omega
    · have := h2 hl
      have := few d R (fun r hs hl => (h.e r hs hl).1) h.ok.nd (fun r hr => ⟨(h.rw' r hr).1, by have := (h.rw' r hr).2; omega⟩)
      omega
  | succ fuel ih =>
    intro d R level x4 x5 x6 x7 x8 x9 x10 S h h0 h4 hlow h1 h2
    have hu : x4 ≠ .und := by rcases h4 with rfl | ⟨n, rfl, _⟩ <;> intro h <;> cases h
    have hc : ptC [formD f, formD g, x2, .loc 0, x4, x5, x6, x7, x8, x9, x10] S = .ok (!level.isEmpty) S := by
      unfold ptC
      refine valF (op2F (var_atP (i := 4) rfl hu) (y := .lst []) (S2 := S) rfl ?_)
      have := neNil (d := x4) (n := 3) (l := level.map (kk f g)) (S := S) (h4.imp id fun ⟨n, a, _, b⟩ => ⟨n, a, b⟩) pl_kk (by omega)
      rw [this]; simp
    by_cases hl : level = []
    · subst hl
      refine .inl ⟨h.none, _, _, while_end (by exact hc)⟩
    · have hR := few d R (fun r hs hl => (h.e r hs hl).1) h.ok.nd (fun r hr => ⟨(h.rw' r hr).1, by have := (h.rw' r hr).2; omega⟩)
      obtain ⟨r0, hr0⟩ : ∃ r, r ∈ level := List.exists_mem_of_ne_nil _ hl
      have hd : d < R.length := by
        have := len_in h.ok (h.lv r0 hr0).1
        rw [(h.lv r0 hr0).2] at this; exact this
      have hct : ptC [formD f, formD g, x2, .loc 0, x4, x5, x6, x7, x8, x9, x10] S = .ok true S := by
        rw [hc]
        cases level with
        | nil => exact absurd rfl hl
        | cons => rfl
      have l0 : 0 < S.length := (List.getElem?_eq_some_iff.mp h0).1
      have hB : ∀ pr lat, MI f g d R pr lat → (R ++ lat).length < 16777216 := fun pr lat M => few d (R ++ lat) (fun r hs hl => (h.e r hs hl).1) M.ok.nd (fun r hr => by
        rcases List.mem_append.mp hr with hr | hr
        · have := h.rw' r hr; exact ⟨this.1, by omega⟩
        · have := M.nw r hr; exact ⟨this.1, by omega⟩)
      have M0 : MI f g d R [] [] := ⟨by rw [List.append_nil]; exact h.ok, by simp, by simp⟩
      have P0 : PIn f g S.length R [] (S ++ [.lst []]) (S ++ [.lst []]) := by
        refine ⟨by rw [List.append_nil, List.getElem?_append_left l0]; exact h0, by simp, fun _ _ _ => rfl, rfl, fun o ho => ?_⟩
        rcases List.mem_append.mp ho with h | h
        · exact hlow o h
        · rw [List.mem_singleton.mp h]; rfl
      have hlv : ∀ r ∈ level, r ∈ R ∧ liv f g r ∧ r.length = d := fun r hr => ⟨(h.lv r hr).1, (h.rw' r (h.lv r hr).1).1, (h.lv r hr).2⟩
      -- the walk over the level
      have key : (∃ w S', sForD (fVar 4) (tgName 6) ptL [formD f, formD g, x2, .loc 0, x4, .loc S.length, x6, x7, x8, x9, x10] (S ++ [.lst []]) = rtN w S' ∧ Hit f g d w) ∨
          (∃ y6 y7 y8 y9 y10 S' lat', sForD (fVar 4) (tgName 6) ptL [formD f, formD g, x2, .loc 0, x4, .loc S.length, x6, x7, x8, x9, x10] (S ++ [.lst []]) = .nx [formD f, formD g, x2, .loc 0, x4, .loc S.length, y6, y7, y8, y9, y10] S' ∧ PIn f g S.length R lat' (S ++ [.lst []]) S' ∧ MI f g d R (prs level) lat') := by
        rcases h4 with rfl | ⟨n, rfl, hn, hS⟩
        · have e : sForD (fVar 4) (tgName 6) ptL [formD f, formD g, x2, .loc 0, .lst (level.map (kk f g)), .loc S.length, x6, x7, x8, x9, x10] (S ++ [.lst []]) = forL (tgName 6) ptL (level.map (kk f g)) [formD f, formD g, x2, .loc 0, .lst (level.map (kk f g)), .loc S.length, x6, x7, x8, x9, x10] (S ++ [.lst []]) := rfl
          rw [e]
          have := t_ptF (x2 := x2) (x4 := .lst (level.map (kk f g))) (m := S.length) hf hg (by omega) (by omega) hB level [] [] x6 x7 x8 x9 x10 (S ++ [.lst []]) hlv M0 P0
          rw [List.nil_append] at this
          exact this
        · have hn2 : n < S.length := (List.getElem?_eq_some_iff.mp hS).1
          have hS2 : (S ++ [Ob.lst []])[n]? = some (.lst (level.map (kk f g))) := by rw [List.getElem?_append_left hn2]; exact hS
          have e : sForD (fVar 4) (tgName 6) ptL [formD f, formD g, x2, .loc 0, .loc n, .loc S.length, x6, x7, x8, x9, x10] (S ++ [Ob.lst []]) = forV (tgName 6) ptL n (level.length + 1) ([] : List (List Int)).length [formD f, formD g, x2, .loc 0, .loc n, .loc S.length, x6, x7, x8, x9, x10] (S ++ [Ob.lst []]) := by
            show (match (S ++ [Ob.lst []])[n]? with
              | some (.lst l) => forV (tgName 6) ptL n (l.length + 1) 0 [formD f, formD g, x2, .loc 0, .loc n, .loc S.length, x6, x7, x8, x9, x10] (S ++ [Ob.lst []])
              | _ => .bad) = _
            rw [hS2]; simp
          rw [e]
          have := t_ptV (x2 := x2) (x4 := .loc n) (m := S.length) (n := n) (L := level) hf hg (by omega) hn (by omega) hS2 (by omega) hB hlv level [] [] [] x6 x7 x8 x9 x10 (S ++ [.lst []]) rfl M0 P0
          rw [List.nil_append] at this
          exact this
      have s5 : sAsg 5 (fLst true (fNil)) [formD f, formD g, x2, .loc 0, x4, x5, x6, x7, x8, x9, x10] S = .nx [formD f, formD g, x2, .loc 0, x4, .loc S.length, x6, x7, x8, x9, x10] (S ++ [.lst []]) := rfl
      rcases key with ⟨w, S', e, hit⟩ | ⟨y6, y7, y8, y9, y10, S', lat, e, P, M⟩
      · refine .inr ⟨w, S', hit.parted h, ?_, while_rt hct ?_⟩
        · obtain ⟨r, s, rfl, _, hrd, _⟩ := hit
          rw [List.length_append, List.length_singleton]; omega
        · unfold ptW
          rw [sSeq_nx s5, x_seq, e]; rfl
      · have hb : ptW [formD f, formD g, x2, .loc 0, x4, x5, x6, x7, x8, x9, x10] S = .nx [formD f, formD g, x2, .loc 0, .loc S.length, .loc S.length, y6, y7, y8, y9, y10] S' := by
          unfold ptW
          rw [sSeq_nx s5, sSeq_nx e]; rfl
        rw [while_go hct hb]
        refine ih (d + 1) (R ++ lat) lat (.loc S.length) (.loc S.length) y6 y7 y8 y9 y10 S' (M.next h) P.s0 (.inr ⟨S.length, rfl, by omega, P.sm⟩) P.low (fun _ => ?_) (fun hne => ?_)
        · have := h2 hl; omega
        · have := h2 hl
          have : 0 < lat.length := List.length_pos_iff.mpr hne
          rw [List.length_append]; omega
end
/-- nothing, or a new list -/
def outN (o : Option (List Int)) (S : Sto) : Out D := match o with
  | none => .ok .non S
  | some w => .ok (.loc S.length) (S ++ [.lst (w.map D.int)])
def endN' (r : SR) : Out D := match r with
  | .rt (.loc i) S' => fnEnd true 0 (.rt (.loc i) S')
  | r => fnEnd false 0 r
theorem allInt_map : ∀ l : List Int, allInt (l.map D.int) = true
  | [] => rfl
  | _ :: l => allInt_map l
theorem endN_lst {w : List Int} {S' : Sto} : endN' (rtN w S') = .ok (.loc 0) [.lst (w.map D.int)] := by
  show (bif Nat.ble 0 S'.length then match (S' ++ [Ob.lst (w.map D.int)])[S'.length]? with
    | some o => bif ((S' ++ [Ob.lst (w.map D.int)]).take 0).all (lowO 0) && lowO 0 o then Out.ok (D.loc 0) ((S' ++ [Ob.lst (w.map D.int)]).take 0 ++ [o]) else .bad
    | none => .bad else .bad) = _
  have e : (S' ++ [Ob.lst (w.map D.int)])[S'.length]? = some (.lst (w.map D.int)) := by simp
  have h : lowO 0 (.lst (w.map D.int)) = true := low_ints w
  rw [e]
  simp only [List.take_zero, List.all_nil, Bool.true_and, h, cond_true]
  rfl
theorem pureN_val {F : Fn} {ds : List D} {S : Sto} {d : D} (hl : lowL 0 ds = true) (h : F ds [] = .ok d []) : pureN F ds S = .ok d S := by
  unfold pureN; rw [hl, h]; cases d with
  | loc k => cases k <;> rfl
  | _ => rfl
theorem pureN_lst {F : Fn} {ds : List D} {S : Sto} {w : List Int} (hl : lowL 0 ds = true) (h : F ds [] = .ok (.loc 0) [.lst (w.map D.int)]) : pureN F ds S = .ok (.loc S.length) (S ++ [.lst (w.map D.int)]) := by
  unfold pureN; rw [hl, h]
  simp only [cond_true]
  rw [allInt_map]; rfl
theorem t_start_of {vs : List Lv} {S : Sto} (h : Form vs) : pureF f_start_of [formD vs] S = .ok (stD (zer vs)) S := by
  refine pure_eq low_form ?_
  have h1 := h.1
  have h2 := h.2.1
  have e := fun S => x_repT (d := .tup [.int 0, .int 0]) (n := (vs.map Lv.D).length) (S := S) (by rw [List.length_map]; omega) (by rw [List.length_map]; omega)
  unfold f_start_of fn b_start_of
  show fnEnd false 0 (sRet _ [formD vs] []) = _
  rw [x_ret, op2F (x := .tup [.tup [.int 0, .int 0]]) (S1 := []) (by rfl) (opNF0 (consF rfl x_nil) x_lenT) (e [])]
  have : stD (zer vs) = .tup (List.replicate (vs.map Lv.D).length (.tup [.int 0, .int 0])) := by
    unfold stD zer
    rw [List.map_replicate, List.length_map]; rfl
  rw [this]
  exact end_rt rfl
theorem setl_zer : ∀ {vs : List Lv}, (∀ v ∈ vs, v.Ok) → setlM vs (zer vs) = zer vs
  | [], _ => rfl
  | v :: vs, h => by
    show setlP v (0, 0) :: setlM vs (zer vs) = _
    rw [setl_zer fun w hw => h w (by simp [hw])]
    have ht := (h v (by simp)).1
    rcases setlP_cases v (0, 0) with ⟨_, h0, _⟩ | ⟨_, e⟩
    · simp only at h0; omega
    · rw [e]; rfl
def rowO : Option (List Int) → D
  | none => .non
  | some w => rowD w
theorem t_partingN {f g : List Lv} (hf : Form f) (hg : Form g) (few : Few f g) : ∃ o, Parted f g o ∧ (∀ w, o = some w → w.length < 16777216) ∧ ∀ S, pureN f_parting [formD f, formD g] S = outN o S := by
  have hlow : lowL 0 [formD f, formD g] = true := by simp only [lowL, low_form']; rfl
  have hk : kk f g [] = .tup [stD (zer f), stD (zer g)] := by
    show D.tup [stD (setlM f (zer f)), stD (setlM g (zer g))] = _
    rw [setl_zer hf.2.2, setl_zer hg.2.2]
  have b0 : BI f g 0 [[]] [[]] := by
    have l0 : liv f g [] := ⟨rfl, rfl, fun r hr => by cases hr⟩
    refine ⟨⟨by simp, fun q s h => by simp at h⟩, fun r hr => ?_, fun r hs hl => ?_, fun r hr => ?_, fun r hr => .inl hr⟩
    · rw [List.mem_singleton.mp hr]; exact ⟨l0, by simp⟩
    · have : r = [] := List.eq_nil_of_length_eq_zero (by omega)
      subst this
      exact ⟨rfl, fun _ => by simp⟩
    · rw [List.mem_singleton.mp hr]; exact ⟨by simp, rfl⟩
  have w := t_ptWhile (x2 := kk f g []) hf hg few 20000000 0 [[]] [[]] (.lst [kk f g []]) .und .und .und .und .und .und [.dct false (srcE f g [[]])] b0 rfl (.inl rfl) (fun o ho => by rw [List.mem_singleton.mp ho]; exact low_src) (by simp) (by simp)
  have start : f_parting [formD f, formD g] [] = endN' (sSeq (whileL ptC ptW 20000000) (sRet (fCon .non)) [formD f, formD g, kk f g [], .loc 0, .lst [kk f g []], .und, .und, .und, .und, .und, .und] [.dct false (srcE f g [[]])]) := by
    unfold f_parting fnN b_parting
    show endN' (sSeq _ (sSeq _ (sSeq _ (sSeq _ (sSeq (whileL ptC ptW 20000000) _)))) [formD f, formD g, .und, .und, .und, .und, .und, .und, .und, .und, .und] []) = _
    rw [sSeq_nx (e' := [formD f, formD g, .und, .und, .und, .und, .und, .und, .und, .und, .und]) (S' := []) (by rw [x_expr, callF (consF rfl x_nil) (t_need_form hf)]; rfl)]
    rw [sSeq_nx (e' := [formD f, formD g, .und, .und, .und, .und, .und, .und, .und, .und, .und]) (S' := []) (by rw [x_expr, callF (consF rfl x_nil) (t_need_form hg)]; rfl)]
    rw [sSeq_nx (e' := [formD f, formD g, kk f g [], .und, .und, .und, .und, .und, .und, .und, .und]) (S' := []) (by
      rw [hk]
      refine asgF ?_
      rw [x_tup, consF (callF (consF rfl x_nil) (t_start_of hf)) (consF (callF (consF rfl x_nil) (t_start_of hg)) x_nil)]; rfl)]
    rw [sSeq_nx (e' := [formD f, formD g, kk f g [], .loc 0, .lst [kk f g []], .und, .und, .und, .und, .und, .und]) (S' := [.dct false (srcE f g [[]])]) (by
      have e1 : fDct1 (fVar 2) (fCon .non) [formD f, formD g, kk f g [], .und, .und, .und, .und, .und, .und, .und, .und] [] = .ok (.loc 0) [.dct false (srcE f g [[]])] := by
        show (bif keyOk (kyD (kyR f g [])) then Out.ok (D.loc 0) [Ob.dct false [(kk f g [], .non)]] else .bad) = _
        rw [keyOk_ky]; rfl
      rw [x_par2, consF e1 (consF (x := .lst [kk f g []]) (S1 := [.dct false (srcE f g [[]])]) (by rfl) x_nil)]; rfl)]
  rcases w with ⟨hp, env', S', e⟩ | ⟨w, S', hp, hl, e⟩
  · refine ⟨none, hp, (fun w h => by cases h), fun S => pureN_val hlow (start.trans ?_)⟩
    rw [sSeq_nx e]
    exact end_pl (n := 0) (d := .non) (S := S') rfl (by omega)
  · refine ⟨some w, hp, (fun w' h => by cases h; exact hl), fun S => pureN_lst hlow (start.trans ?_)⟩
    rw [x_seq, e]
    exact endN_lst

end Sf
end

section
set_option Elab.async false
set_option maxRecDepth 100000
set_option linter.all false
set_option maxHeartbeats 4000000
namespace Sf
open PySem L2
/-! not too many pairs of scores: boxes -/
theorem afterL_no {v : Lv} {vs : List Lv} {p : Pr} {ps : List Pr} {s : Int} (hw : lwonP v (plusM p s) s = false) : afterL (v :: vs) (p :: ps) s = (plusM p s :: ps, none) := by unfold afterL; rw [hw]; rfl
theorem afterL_one {v : Lv} {p : Pr} {ps : List Pr} {s : Int} (hw : lwonP v (plusM p s) s = true) : afterL [v] (p :: ps) s = (plusM p s :: ps, some s) := by unfold afterL; rw [hw]; rfl
theorem afterL_up {v v2 : Lv} {vs : List Lv} {p : Pr} {ps : List Pr} {s : Int} (hw : lwonP v (plusM p s) s = true) : afterL (v :: v2 :: vs) (p :: ps) s = ((0, 0) :: (afterL (v2 :: vs) ps s).1, (afterL (v2 :: vs) ps s).2) := by
  rw [afterL, hw]
  · rfl
  · intro h; cases h
def RLs : List Lv → List Pr → Prop
  | v :: vs, p :: ps => RL v p ∧ RLs vs ps
  | [], [] => True
  | _, _ => False
theorem RLs.start : ∀ {vs : List Lv}, (∀ v ∈ vs, v.Ok) → RLs vs (zer vs)
  | [], _ => trivial
  | v :: vs, h => ⟨RL.zero (h v (by simp)), RLs.start fun w hw => h w (by simp [hw])⟩
theorem RLs.step : ∀ {vs : List Lv} {ps : List Pr} {s : Int}, RLs vs ps → (∀ v ∈ vs, v.Ok) → (s = 0 ∨ s = 1) → (afterL vs ps s).2 = none → RLs vs (afterL vs ps s).1
  | [], [], s, _, _, _, _ => trivial
  | [], p :: ps, s, h, _, _, _ => h.elim
  | v :: vs, [], s, h, _, _, _ => h.elim
  | v :: vs, p :: ps, s, h, hv, hs, hn => by
    have hv0 := hv v (by simp)
    cases hw : lwonP v (plusM p s) s with
    | false => rw [afterL_no hw]; exact ⟨h.1.step hv0 hs hw, h.2⟩
    | true =>
      cases vs with
      | nil => rw [afterL_one hw] at hn; cases hn
      | cons v2 vs =>
        rw [afterL_up hw] at hn ⊢
        exact ⟨RL.zero hv0, RLs.step h.2 (fun w hw => hv w (List.mem_cons_of_mem _ hw)) hs hn⟩
theorem RLs.play {vs : List Lv} (hv : ∀ v ∈ vs, v.Ok) {r : List Int} (hr : Sides r) (hw : (playL vs r).w = none) : RLs vs (playL vs r).st := by
  induction r using snoc_ind with
  | h0 => exact RLs.start hv
  | h1 r s ih =>
    have hp := play_pre hw
    obtain ⟨a, b⟩ := sides_app hr
    rw [playL_snoc, stepL_none hp] at hw ⊢
    exact (ih a hp).step hv (b s (by simp)) hw
theorem RL.setl {v : Lv} {p : Pr} (hv : v.Ok) (h : RL v p) : RL v (setlP v p) := by
  rcases setlP_cases v p with ⟨hc, h0, e⟩ | ⟨_, e⟩
  · obtain ⟨h1, h2, h3, h4⟩ := h
    have h5 := h3.setl
    have ht := hv.1
    rw [e] at h5 ⊢
    refine ⟨by simp only; omega, by simp only; omega, h5, fun hl => ?_⟩
    have := h4 hl; omega
  · rw [e]; exact h
theorem RLs.setl : ∀ {vs : List Lv} {ps : List Pr}, (∀ v ∈ vs, v.Ok) → RLs vs ps → RLs vs (setlM vs ps)
  | [], [], _, _ => trivial
  | [], p :: ps, _, h => h.elim
  | v :: vs, [], _, h => h.elim
  | v :: vs, p :: ps, hv, h => ⟨h.1.setl (hv v (by simp)), RLs.setl (fun w hw => hv w (by simp [hw])) h.2⟩
def grid : List Pr := [0, 1, 2, 3, 4, 5, 6, 7, 8, 9].flatMap fun a => [0, 1, 2, 3, 4, 5, 6, 7, 8, 9].map fun b => (a, b)
def bxB (v : Lv) (p : Pr) : Bool := !(decide (v.t ≤ p.1) && decide (v.l ≤ p.1 - p.2)) && (!(decide (v.t ≤ p.2) && decide (v.l ≤ p.2 - p.1)) && ((match v.c with
  | none => decide (p.1 < v.t) || decide (p.2 < v.t)
  | some c => decide (p.1 < c) && decide (p.2 < c)) && (!(decide (v.l = 1)) || (decide (p.1 < v.t) && decide (p.2 < v.t)))))
def bx (v : Lv) : List Pr := grid.filter (bxB v)
theorem mem_grid {p : Pr} (h1 : 0 ≤ p.1) (h2 : p.1 < 10) (h3 : 0 ≤ p.2) (h4 : p.2 < 10) : p ∈ grid := by
  obtain ⟨a, b⟩ := p
  unfold grid
  simp only [List.mem_flatMap, List.mem_map, Prod.mk.injEq]
  refine ⟨a, by simp; omega, b, by simp; omega, rfl, rfl⟩
theorem mem_bx {v : Lv} {p : Pr} (hv : v.Ok) (h : RL v p) (hse : setlP v p = p) : p ∈ bx v := by
  obtain ⟨h1, h2, ⟨n1, n2, n3⟩, h4⟩ := h
  obtain ⟨o1, o2, o3, o4, o5⟩ := hv
  have key : p.1 < 10 ∧ p.2 < 10 ∧ (v.c = none → min p.1 p.2 < v.t) := by
    cases hc : v.c with
    | some c => have := o5 c hc; have := n3 c hc; exact ⟨by omega, by omega, fun h => by cases h⟩
    | none =>
      rcases setlP_cases v p with ⟨_, h0, e⟩ | ⟨h0, e⟩
      · rw [e] at hse
        have e1 : p.1 - (min p.1 p.2 - v.t + 1) = p.1 := congrArg Prod.fst hse
        omega
      · have := h0 hc; exact ⟨by omega, by omega, fun _ => by omega⟩
  refine List.mem_filter.mpr ⟨mem_grid h1 key.1 h2 key.2.1, ?_⟩
  unfold bxB
  have a1 : (decide (v.t ≤ p.1) && decide (v.l ≤ p.1 - p.2)) = false := by rw [Bool.eq_false_iff]; simpa using n1
  have a2 : (decide (v.t ≤ p.2) && decide (v.l ≤ p.2 - p.1)) = false := by rw [Bool.eq_false_iff]; simpa using n2
  rw [a1, a2]
  have a3 : (match v.c with
    | none => decide (p.1 < v.t) || decide (p.2 < v.t)
    | some c => decide (p.1 < c) && decide (p.2 < c)) = true := by
    cases hc : v.c with
    | some c => have := n3 c hc; simp [this]
    | none => have := key.2.2 hc; simp; omega
  rw [a3]
  by_cases hl : v.l = 1
  · have := h4 hl; simp [this]
  · simp [hl]
def bxF : List Lv → List (List Pr)
  | [] => [[]]
  | v :: vs => (bx v).flatMap fun p => (bxF vs).map fun q => p :: q
def cnt : List Lv → Nat
  | [] => 1
  | v :: vs => (bx v).length * cnt vs
theorem bxF_len : ∀ vs : List Lv, (bxF vs).length = cnt vs
  | [] => rfl
  | v :: vs => by
    unfold bxF cnt
    rw [len_flat_const (k := cnt vs) fun a ha => by rw [List.length_map, bxF_len vs]]
theorem mem_bxF : ∀ {vs : List Lv} {st : List Pr}, (∀ v ∈ vs, v.Ok) → RLs vs st → setlM vs st = st → st ∈ bxF vs
  | [], [], _, _, _ => by simp [bxF]
  | [], p :: ps, _, h, _ => h.elim
  | v :: vs, [], _, h, _ => h.elim
  | v :: vs, p :: ps, hv, h, hse => by
    simp only [setlM, List.cons.injEq] at hse
    unfold bxF
    exact List.mem_flatMap.mpr ⟨p, mem_bx (hv v (by simp)) h.1 hse.1, List.mem_map.mpr ⟨ps, mem_bxF (fun w hw => hv w (by simp [hw])) h.2 hse.2, rfl⟩⟩
theorem play_bxF {vs : List Lv} {r : List Int} (hv : ∀ v ∈ vs, v.Ok) (hr : Sides r) (hw : (playL vs r).w = none) : setlM vs (playL vs r).st ∈ bxF vs := mem_bxF hv ((RLs.play hv hr hw).setl hv) setlM_idem
def prod2 {α β : Type} (A : List α) (B : List β) : List (α × β) := A.flatMap fun a => B.map fun b => (a, b)
theorem prod2_len {α β : Type} (A : List α) (B : List β) : (prod2 A B).length = A.length * B.length := by
  unfold prod2
  rw [len_flat_const (k := B.length) fun a ha => by rw [List.length_map]]
theorem mem_prod2 {α β : Type} {A : List α} {B : List β} {a : α} {b : β} (ha : a ∈ A) (hb : b ∈ B) : (a, b) ∈ prod2 A B := List.mem_flatMap.mpr ⟨a, ha, List.mem_map.mpr ⟨b, hb, rfl⟩⟩
theorem few_of {f g : List Lv} (h : ∀ d, (∀ r, Sides r → r.length ≤ d → same f g r) → ∃ B : List Ky, B.length < 16777216 ∧ ∀ r, liv f g r → r.length ≤ d + 1 → kyR f g r ∈ B) : Few f g := by
  intro d l e nd hl
  obtain ⟨B, hB, hm⟩ := h d e
  have := nodup_le nd fun k hk => by
    obtain ⟨r, hr, rfl⟩ := List.mem_map.mp hk
    exact hm r (hl r hr).1 (hl r hr).2
  rw [List.length_map] at this
  omega
theorem Few.box {f g : List Lv} (hf : ∀ v ∈ f, v.Ok) (hg : ∀ v ∈ g, v.Ok) (h : cnt f * cnt g < 16777216) : Few f g :=
  few_of fun d _ => ⟨prod2 (bxF f) (bxF g), by rw [prod2_len, bxF_len, bxF_len]; exact h, fun r hr _ => mem_prod2 (play_bxF hf hr.s hr.a) (play_bxF hg hr.s hr.b)⟩
theorem Few.symm {f g : List Lv} (h : Few f g) : Few g f := by
  intro d l e nd hl
  refine h d l (fun r hr hd => (e r hr hd).symm) ?_ (fun r hr => ⟨⟨(hl r hr).1.b, (hl r hr).1.a, (hl r hr).1.s⟩, (hl r hr).2⟩)
  have e : l.map (kyR f g) = (l.map (kyR g f)).map Prod.swap := by rw [List.map_map]; rfl
  rw [e]
  show List.Pairwise _ _
  rw [List.pairwise_map]
  exact List.Pairwise.imp (fun {a b} hne he => hne (by have := congrArg Prod.swap he; simpa using this)) nd

end Sf
end

section
set_option Elab.async false
set_option maxRecDepth 100000
set_option linter.all false
set_option maxHeartbeats 4000000
namespace Sf
open PySem L2
/-! played, its row a place -/
theorem t_start {vs : List Lv} {S : Sto} (h : Form vs) : pureF f_start_of [formD vs] S = .ok (stD (start vs).st) S := by
  refine pure_eq low_form ?_
  unfold f_start_of fn b_start_of start
  simp [x_repT h.1 (show vs.length ≤ 1000 by have := h.2.1; omega), end_rt, prD]
def playB : FS := (sIf (tVal (fOp2 oIs (fVar 3) (fCon .non))) (sSeq (sAsgT [2, 3] (fCall (pureF f_after) (fCons (fVar 0) (fCons (fVar 2) (fCons (fVar 5) (fNil))))))
    (sAug 4 oAddI (fCon (.int 1)))) (sSkip))
theorem t_playB1 {vs : List Lv} {row z : D} {x : Play} {s : Int} {S : Sto} (hv : vs.length ≤ 1000) (h : x.st.length = vs.length) :
    playB [formD vs, row, stD x.st, oI x.w, .int x.m, .int s] S = .nx [formD vs, row, stD (stepM vs x s).st, oI (stepM vs x s).w, .int (stepM vs x s).m, .int s] S := by
  have ea := t_after (s := s) (S := S) hv h
  unfold playB stepM
  obtain ⟨st, w, m⟩ := x
  cases w with
  | none => simp [ea]
  | some w => simp
theorem t_playV {vs : List Lv} {rs : List Int} {j : Nat} {S : Sto} (hv : vs.length ≤ 1000) (hj : S[j]? = some (.lst (rs.map D.int))) : ∀ (k i : Nat) (x : Play) (z : D), x.st.length = vs.length → i + k = rs.length →
    ∃ z', forV (tgName 5) playB j (k + 1) i [formD vs, .loc j, stD x.st, oI x.w, .int x.m, z] S =
      .nx [formD vs, .loc j, stD ((rs.drop i).foldl (stepM vs) x).st, oI ((rs.drop i).foldl (stepM vs) x).w, .int ((rs.drop i).foldl (stepM vs) x).m, z'] S
  | 0, i, x, z, _, hk => by
    refine ⟨z, ?_⟩
    unfold forV
    rw [hj]
    have e : (rs.map D.int)[i]? = none := by rw [List.getElem?_eq_none_iff]; simp; omega
    simp only [e]
    rw [List.drop_of_length_le (by omega)]
    rfl
  | k + 1, i, x, z, hx, hk => by
    have hi : i < rs.length := by omega
    obtain ⟨z', ih⟩ := t_playV hv hj k (i + 1) (stepM vs x rs[i]) (.int rs[i]) (by rw [stepM_len]; exact hx) (by omega)
    refine ⟨z', ?_⟩
    unfold forV
    rw [hj]
    have e : (rs.map D.int)[i]? = some (.int rs[i]) := by rw [List.getElem?_map, List.getElem?_eq_getElem hi]; rfl
    simp only [e]
    have t : tgName 5 (.int rs[i]) [formD vs, .loc j, stD x.st, oI x.w, .int x.m, z] = some [formD vs, .loc j, stD x.st, oI x.w, .int x.m, .int rs[i]] := rfl
    rw [t]
    simp only
    rw [t_playB1 (z := z) hv hx]
    simp only
    rw [ih, List.drop_eq_getElem_cons hi, List.foldl_cons]
theorem t_playedD {vs : List Lv} {rs : List Int} {j : Nat} {S : Sto} (h : Form vs) (hj : S[j]? = some (.lst (rs.map D.int))) :
    f_played [formD vs, .loc j] S = .ok (.tup [stD (playM vs rs).st, oI (playM vs rs).w, .int (playM vs rs).m]) S := by
  obtain ⟨z', key⟩ := t_playV (vs := vs) (rs := rs) (j := j) (S := S) (by have := h.2.1; omega) hj rs.length 0 (start vs) .und (by simp [start]) (by omega)
  rw [List.drop_zero] at key
  unfold f_played fn b_played
  change fnEnd false S.length (sSeq _ (sSeq (sForD (fVar 1) (tgName 5) playB) _) [formD vs, .loc j, .und, .und, .und, .und] S) = _
  have e2 : sForD (fVar 1) (tgName 5) playB [formD vs, .loc j, stD (start vs).st, .non, .int 0, .und] S = .nx [formD vs, .loc j, stD (playM vs rs).st, oI (playM vs rs).w, .int (playM vs rs).m, z'] S := by
    unfold sForD
    show (match S[j]? with
      | some (.lst l) => forV (tgName 5) playB j (l.length + 1) 0 [formD vs, .loc j, stD (start vs).st, .non, .int 0, .und] S
      | _ => .bad) = _
    rw [hj]
    simp only [List.length_map]
    exact key
  have e1 : sPar3 2 3 4 (fCons (fCall (pureF f_start_of) (fCons (fVar 0) (fNil))) (fCons (fCon .non) (fCons (fCon (.int 0)) (fNil)))) [formD vs, .loc j, .und, .und, .und, .und] S = .nx [formD vs, .loc j, stD (start vs).st, .non, .int 0, .und] S := by
    simp [t_start h]
  rw [sSeq_nx e1, sSeq_nx e2]
  cases hw : (playM vs rs).w <;> simp [end_rt]

end Sf
end

section
set_option Elab.async false
set_option maxRecDepth 100000
set_option linter.all false
set_option maxHeartbeats 4000000
namespace Sf
open PySem L2
theorem t_is_side {i : Int} {S : Sto} (h : i = 0 ∨ i = 1) : pureF f_is_side [.int i] S = .ok (.bl true) S := by
  apply pure_eq
  · rfl
  · unfold f_is_side fn b_is_side
    rcases h with rfl | rfl <;> simp [t_is_count, end_rt]
/-! the program's needs -/
theorem t_need_side {s : Int} {S : Sto} (h : s = 0 ∨ s = 1) : pureF f_need_side [.int s] S = .ok .non S := by
  refine pure_eq rfl ?_
  unfold f_need_side fn b_need_side
  simp [t_is_side h]; rfl
def needsB : FS := (sSeq (sAsgT [1, 2] (fCall (pureF f_after) (fCons (fVar 0) (fCons (fVar 1) (fCons (fVar 3) (fNil))))))
    (sAug 4 oAddI (fCon (.int 1))))
def needsC : FT := tVal (fOp2 oIs (fVar 2) (fCon .non))
theorem t_needsW {vs : List Lv} {s : Int} (hv : Form vs) (hs : s = 0 ∨ s = 1) : ∀ (k fuel : Nat) (st : List Pr) (m : Int), st.length = vs.length → live vs st → NN vs st s = k → k < fuel →
    ∃ st', whileL needsC needsB fuel [formD vs, stD st, .non, .int s, .int m] [] = .nx [formD vs, stD st', .int s, .int s, .int (m + k)] []
  | 0, fuel, st, m, hl, hL, hN, hf => by have := NN_pos hL hv.2.2 hs; omega
  | k + 1, 0, st, m, hl, hL, hN, hf => by omega
  | k + 1, fuel + 1, st, m, hl, hL, hN, hf => by
    obtain ⟨e, l2, l3⟩ := live.step hL hv.2.2 hs
    obtain ⟨n1, n2⟩ := NN_step hL hv.2.2 hs hv.1 hl
    have ea := fun S => t_after (vs := vs) (st := st) (s := s) (S := S) (by have := hv.2.1; omega) hl
    rw [e] at ea
    have hc : ∀ st m, needsC [formD vs, stD st, .non, .int s, .int m] [] = .ok true [] := fun st m => by unfold needsC; simp
    have hb : needsB [formD vs, stD st, .non, .int s, .int m] [] = .nx [formD vs, stD (afterL vs st s).1, oI (afterL vs st s).2, .int s, .int (m + 1)] [] := by
      unfold needsB; simp [ea]
    rw [while_go (hc _ _) hb]
    cases hw : (afterL vs st s).2 with
    | none =>
      have hk := n1 hw
      have := n2.mp hw
      obtain ⟨st', e'⟩ := t_needsW hv hs k fuel (afterL vs st s).1 (m + 1) (by rw [afterL_len]; exact hl) (l2 hw) (by omega) (by omega)
      exact ⟨st', by rw [oI_none, e', show m + 1 + (k : Int) = m + ((k + 1 : Nat) : Int) by omega]⟩
    | some w =>
      have := l3 w hw
      subst this
      have hk : k = 0 := by
        have : ¬ (1 < NN vs st w) := fun h => by rw [n2.mpr h] at hw; cases hw
        omega
      subst hk
      refine ⟨(afterL vs st w).1, ?_⟩
      cases fuel with
      | zero => omega
      | succ fuel =>
        rw [while_end (S2 := [])]
        · rfl
        · unfold needsC; simp
def needsV (vs : List Lv) (x : Play) (s : Int) : Option Int := match x.w with
  | none => some (NN vs x.st s)
  | some w => if w = s then some 0 else none
theorem t_needs_at {vs : List Lv} {s : Int} {x : Play} {S : Sto} (hv : Form vs) (hs : s = 0 ∨ s = 1) (hl : x.st.length = vs.length) (hL : x.w = none → live vs x.st ∧ NN vs x.st s < 100000) :
    pureF f_needs_at [formD vs, stD x.st, oI x.w, .int s] S = .ok (oI (needsV vs x s)) S := by
  obtain ⟨st, w, m⟩ := x
  simp only at hl hL
  refine pure_eq ?_ ?_
  · have : lowD 0 (oI w) = true := by cases w <;> rfl
    have h2 : lowD 0 (stD st) = true := low_prs st
    simp only [lowL, low_form', this, h2]; rfl
  · unfold f_needs_at fn b_needs_at needsV
    cases w with
    | none =>
      obtain ⟨h1, h2⟩ := hL rfl
      have h3 := NN_pos h1 hv.2.2 hs
      obtain ⟨st', e⟩ := t_needsW hv hs (NN vs st s).toNat 100000 st 0 hl h1 (by omega) (by omega)
      rw [show (0 : Int) + ((NN vs st s).toNat : Int) = NN vs st s by omega] at e
      change fnEnd false 0 (sSeq _ (sSeq _ (sSeq (whileL needsC needsB 100000) _)) _ _) = _
      simp [e, end_rt]
    | some w =>
      by_cases h : w = s
      · subst h; simp [end_rt]
      · simp [h, end_rt]
theorem play_bnd {vs : List Lv} (hv : ∀ v ∈ vs, v.Ok) : ∀ (rs : List Int) (x : Play) (m : Int), 0 ≤ m → Bnd m x.st → Bnd (m + rs.length) (rs.foldl (stepL vs) x).st
  | [], x, m, _, h => by simpa using h
  | s :: rs, x, m, hm, h => by
    rw [List.foldl_cons]
    have h1 : Bnd (m + 1) (stepL vs x s).st := by
      unfold stepL
      cases x.w with
      | none => exact h.step hm
      | some w => exact h.mono (by omega)
    have := play_bnd hv rs (stepL vs x s) (m + 1) (by omega) h1
    rw [List.length_cons]
    rwa [show m + ((rs.length + 1 : Nat) : Int) = m + 1 + rs.length by omega]
theorem start_bnd {vs : List Lv} : Bnd 0 (start vs).st := fun p hp => by
  unfold start at hp
  have := List.eq_of_mem_replicate hp
  subst this; simp
theorem play_NN {vs : List Lv} {rs : List Int} {s : Int} (hv : Form vs) (hr : Row rs) (hs : s = 0 ∨ s = 1) (h : (playL vs rs).w = none) : live vs (playL vs rs).st ∧ NN vs (playL vs rs).st s < 100000 := by
  obtain ⟨e, I⟩ := sofar hv.2.2 _ rs rfl hr.2
  rw [e] at I
  obtain ⟨_, lv⟩ := I.no h
  refine ⟨lv, ?_⟩
  have hb := (play_bnd hv.2.2 rs (start vs) 0 (by omega) start_bnd)
  have hb : Bnd 200 (playL vs rs).st := Bnd.mono hb (by have := hr.1; omega)
  have := NN_le (by omega) hv.2.2 lv hs hb
  have h6 : (6 : Int) ^ vs.length ≤ 216 := by
    have := hv.2.1
    match vs.length, this with
    | 0, _ => decide
    | 1, _ => decide
    | 2, _ => decide
    | 3, _ => decide
  omega
theorem playL_len {vs : List Lv} {rs : List Int} : (playL vs rs).st.length = vs.length := by unfold playL; rw [foldL_len]; simp [start]

end Sf
end

section
set_option Elab.async false
set_option maxRecDepth 100000
set_option linter.all false
set_option maxHeartbeats 4000000
namespace Sf
open PySem L2
/-! the object -/
abbrev bdO (vs : List Lv) (j : Nat) : Ob := .ins [("form", formD vs), ("points", .loc j)]
structure BdAt (S : Sto) (i j : Nat) (vs : List Lv) (rs : List Int) : Prop where
  ob : S[i]? = some (bdO vs j)
  pt : S[j]? = some (.lst (rs.map D.int))
theorem BdAt.ne {S : Sto} {i j : Nat} {vs : List Lv} {rs : List Int} (b : BdAt S i j vs rs) : i ≠ j := by
  rintro rfl
  have := b.ob.symm.trans b.pt
  cases this
theorem BdAt.put {S : Sto} {i j : Nat} {vs : List Lv} {rs rs' : List Int} (b : BdAt S i j vs rs) : BdAt (S.set j (.lst (rs'.map D.int))) i j vs rs' :=
  ⟨by rw [List.getElem?_set_ne (Ne.symm b.ne)]; exact b.ob, List.getElem?_set_self (List.getElem?_eq_some_iff.mp b.pt).1⟩
theorem BdAt.put2 {S : Sto} {i j i2 j2 : Nat} {vs vs2 : List Lv} {rs rs' rs2 : List Int} (b : BdAt S i j vs rs) (b2 : BdAt S i2 j2 vs2 rs2) (h : j ≠ j2) : BdAt (S.set j (.lst (rs'.map D.int))) i2 j2 vs2 rs2 := by
  refine ⟨?_, by rw [List.getElem?_set_ne h]; exact b2.pt⟩
  rw [List.getElem?_set_ne]
  · exact b2.ob
  · rintro rfl
    have := b2.ob.symm.trans b.pt
    cases this
section
variable {S : Sto} {i j : Nat} {vs : List Lv} {rs : List Int}
theorem BdAt.form (b : BdAt S i j vs rs) : getF "form" (.loc i) S = some (formD vs, S) := by
  unfold getF
  simp only [b.ob]
  rfl
theorem BdAt.points (b : BdAt S i j vs rs) : getF "points" (.loc i) S = some (.loc j, S) := by
  unfold getF
  simp only [b.ob]
  rfl
theorem BdAt.isW (b : BdAt S i j vs rs) : isObj "winner" (.loc i) S = true := by
  unfold isObj
  simp only [b.ob]
  rfl
theorem BdAt.isS (b : BdAt S i j vs rs) : isObj "score" (.loc i) S = true := by
  unfold isObj
  simp only [b.ob]
  rfl
theorem BdAt.isP (b : BdAt S i j vs rs) : isObj "point" (.loc i) S = true := by
  unfold isObj
  simp only [b.ob]
  rfl
theorem BdAt.isU (b : BdAt S i j vs rs) : isObj "undo" (.loc i) S = true := by
  unfold isObj
  simp only [b.ob]
  rfl
theorem BdAt.isL (b : BdAt S i j vs rs) : isObj "__len__" (.loc i) S = true := by
  unfold isObj
  simp only [b.ob]
  rfl
theorem x_objM {m : Str} {F : Fn} {fo : FE} {fs : FA} {env : En} {o : D} {ds : List D} {S S1 : Sto} (h : fo env S = .ok o S) (hi : isObj m o S = true) (hs : fs env S = .ok ds S1) : fObjM m F fo fs env S = F (o :: ds) S1 := by
  unfold fObjM
  rw [h, x_bind, hi, cond_true, hs, x_bind]
theorem t_winner (h : Form vs) (b : BdAt S i j vs rs) : f_Board_winner [.loc i] S = .ok (oI (playM vs rs).w) S := by
  unfold f_Board_winner fn b_Board_winner
  simp [b.form, b.points, t_playedD h b.pt, end_rt]
theorem t_bscore (h : Form vs) (b : BdAt S i j vs rs) : f_Board_score [.loc i] S = .ok (stD (playM vs rs).st) S := by
  unfold f_Board_score fn b_Board_score
  simp [b.form, b.points, t_playedD h b.pt, end_rt]
theorem t_blen (b : BdAt S i j vs rs) : f_Board___len__ [.loc i] S = .ok (.int rs.length) S := by
  unfold f_Board___len__ fn b_Board___len__
  have e : oLen [.loc j] S = some (.int rs.length, S) := by
    unfold oLen
    simp only
    have : lsR (.loc j) S = some (rs.map D.int) := by
      show (match S[j]? with
        | some (.lst l) => some l
        | _ => none) = _
      rw [b.pt]
    rw [this]
    simp
  simp [b.points, e, end_rt]
end

end Sf
end

section
set_option Elab.async false
set_option maxRecDepth 100000
set_option linter.all false
set_option maxHeartbeats 4000000
namespace Sf
open PySem L2
/-! the object's methods that raise; the law's try -/
section
variable {env : En} {S : Sto} {α β : Type} {c : Nat}
theorem end_rt2 {d : D} {n : Nat} (h : S.length = n) : fnEnd false n (.rt d S) = .ok d S := end_rt h
end
section
variable {S : Sto} {i j : Nat} {vs : List Lv} {rs : List Int} {s : Int}
theorem w_at {x : List D} (h : Form vs) (b : BdAt S i j vs rs) : fObjM "winner" f_Board_winner (fVar 0) fNil (.loc i :: x) S = .ok (oI (playM vs rs).w) S := by
  exact (x_objM (m := "winner") (F := f_Board_winner) (fo := fVar 0) (fs := fNil) (env := .loc i :: x) (o := .loc i) (ds := []) (S := S) (S1 := S) rfl b.isW rfl).trans (t_winner h b)
theorem app_at {x : List D} (b : BdAt S i j vs rs) (hl : rs.length < 16777216) : fMethL mAppend (fOp1 (getF "points") (fVar 0)) (fCons (fVar 1) (fNil)) (.loc i :: .int s :: x) S = .ok .non (S.set j (.lst ((rs ++ [s]).map D.int))) := by
  have e : fOp1 (getF "points") (fVar 0) (.loc i :: .int s :: x) S = .ok (.loc j) S := by simp [b.points]
  unfold fMethL
  rw [e, x_bind]
  have hi : isLs (.loc j) S = true := by
    show (match S[j]? with
        | some (.lst l) => some l
        | _ => none).isSome = true
    rw [b.pt]; rfl
  rw [hi]
  have f : fitS (rs.map D.int).length = true := by
    unfold fitS
    rw [List.length_map]
    exact Nat.ble_eq_true_of_le hl
  show outO (match S[j]? with
      | some (.lst l) => bif fitS l.length then some (D.non, S.set j (.lst (l ++ [.int s]))) else none
      | _ => none) = _
  rw [b.pt]
  simp only
  rw [f]
  simp
theorem t_point (h : Form vs) (b : BdAt S i j vs rs) (hl : rs.length < 16777216) (hs : s = 0 ∨ s = 1) (hw : (playM vs rs).w = none) :
    f_Board_point [.loc i, .int s] S = .ok (oI (playM vs (rs ++ [s])).w) (S.set j (.lst ((rs ++ [s]).map D.int))) := by
  have w1 := w_at (x := [.int s]) h b
  rw [hw] at w1
  have w2 := w_at (x := [.int s]) h (b.put (rs' := rs ++ [s]))
  have a1 := app_at (x := []) (s := s) b hl
  unfold f_Board_point fn b_Board_point
  show fnEnd false S.length (sSeq _ _ [.loc i, .int s] S) = _
  rw [sSeq_nx (e' := [.loc i, .int s]) (S' := S) (by simp [t_need_side hs]), sSeq_nx (e' := [.loc i, .int s]) (S' := S) (by simp [w1]), sSeq_nx (e' := [.loc i, .int s]) (S' := S.set j (.lst ((rs ++ [s]).map D.int))) (by simp only [x_expr, a1]; rfl)]
  simp only [x_ret, w2, x_bindS]
  exact end_rt (by simp)
theorem eq_nil (l : List Int) {S : Sto} (hj : S[j]? = some (.lst (l.map D.int))) : oEq (.loc j) (.lst []) S = some (.bl l.isEmpty, S) := by
  have d1 : deref S (.loc j) = .lst (l.map D.int) := by
    show (match S[j]? with
      | some (.lst l) => D.lst l
      | _ => .loc j) = _
    rw [hj]
  have p1 : D.py (deref S (.loc j)) = some (.list (l.map PyData.int)) := by
    rw [d1]; unfold D.py; rw [pys_ints]; rfl
  have p2 : D.py (deref S (.lst [])) = some (.list []) := rfl
  have sh : SeqAt.shaped (.list (l.map PyData.int)) = true := by
    obtain ⟨p, h1, h2, h3⟩ := pl_ok 1 (.lst (l.map D.int)) (plL_ints l)
    rw [← d1, p1] at h1
    cases h1
    unfold SeqAt.shaped; rw [h2]; simp; omega
  unfold oEq
  rw [eqB_gen p1 p2 sh rfl]
  cases l <;> simp [PyData.eqv, PyData.eqvAll]
theorem pt_at {x : List D} (b : BdAt S i j vs rs) : fOp1 (getF "points") (fVar 0) (.loc i :: x) S = .ok (.loc j) S := by simp [b.points]
theorem pop_at {x : List D} (b : BdAt S i j vs (rs ++ [s])) : fMethL mPop (fOp1 (getF "points") (fVar 0)) fNil (.loc i :: x) S = .ok (.int s) (S.set j (.lst (rs.map D.int))) := by
  unfold fMethL
  rw [pt_at b, x_bind]
  have hi : isLs (.loc j) S = true := by
    show (match S[j]? with
        | some (.lst l) => some l
        | _ => none).isSome = true
    rw [b.pt]; rfl
  rw [hi]
  show outO (match S[j]? with
      | some (.lst l) => (match l.getLast? with
        | some z => some (z, S.set j (.lst l.dropLast))
        | none => none)
      | _ => none) = _
  rw [b.pt]
  simp
theorem t_undo (h : Form vs) (b : BdAt S i j vs (rs ++ [s])) : f_Board_undo [.loc i] S = .ok (stD (playM vs rs).st) (S.set j (.lst (rs.map D.int))) := by
  have e := eq_nil (j := j) (rs ++ [s]) b.pt
  have e0 : (rs ++ [s]).isEmpty = false := by cases rs <;> rfl
  rw [e0] at e
  unfold f_Board_undo fn b_Board_undo
  show fnEnd false S.length (sSeq _ _ [.loc i] S) = _
  have p := pt_at (x := []) b
  have t : sIf (tVal (fOp2 oEq (fOp1 (getF "points") (fVar 0)) (fLst false (fNil)))) (sBad) (sSkip) [.loc i] S = .nx [.loc i] S := by
    unfold sIf tVal fOp2
    rw [p]
    simp [e]
  rw [sSeq_nx t, sSeq_nx (e' := [.loc i]) (S' := S.set j (.lst (rs.map D.int))) (by simp only [x_expr, pop_at b]; rfl)]
  have b2 := b.put (rs' := rs)
  have sc : fObjM "score" f_Board_score (fVar 0) fNil [.loc i] (S.set j (.lst (rs.map D.int))) = .ok (stD (playM vs rs).st) (S.set j (.lst (rs.map D.int))) := by
    exact (x_objM (m := "score") (F := f_Board_score) (fo := fVar 0) (fs := fNil) (env := [.loc i]) (o := .loc i) (ds := []) (S := S.set j (.lst (rs.map D.int))) (S1 := S.set j (.lst (rs.map D.int))) rfl b2.isS rfl).trans (t_bscore h b2)
  simp only [x_ret, sc, x_bindS]
  exact end_rt (by simp)
end
theorem t_init {vs : List Lv} {S : Sto} (h : Form vs) : f_Board___init__ [.loc S.length, formD vs] (S ++ [.ins []]) = .ok .non (S ++ [bdO vs (S.length + 1), .lst []]) := by
  have g0 : (S ++ [Ob.ins []])[S.length]? = some (.ins []) := by simp
  have e1 : sExpr (fCall (pureF f_need_form) (fCons (fVar 1) (fNil))) [.loc S.length, formD vs] (S ++ [.ins []]) = .nx [.loc S.length, formD vs] (S ++ [.ins []]) := by simp [t_need_form h]
  have e2 : sPutF "form" (fVar 1) (fVar 0) [.loc S.length, formD vs] (S ++ [.ins []]) = .nx [.loc S.length, formD vs] (S ++ [.ins [("form", formD vs)]]) := by
    unfold sPutF
    show (match (S ++ [Ob.ins []])[S.length]? with
      | some (.ins fs) => bif Nat.blt fs.length 1000 then SR.nx [.loc S.length, formD vs] ((S ++ [Ob.ins []]).set S.length (.ins (putD "form" (formD vs) fs))) else .bad
      | _ => .bad) = _
    rw [g0]
    simp only
    rw [List.set_append_right _ _ (Nat.le_refl _)]
    simp
    rfl
  have g1 : (S ++ [Ob.ins [("form", formD vs)]] ++ [Ob.lst []])[S.length]? = some (.ins [("form", formD vs)]) := by simp
  have e3 : sPutF "points" (fLst true (fNil)) (fVar 0) [.loc S.length, formD vs] (S ++ [.ins [("form", formD vs)]]) = .nx [.loc S.length, formD vs] (S ++ [bdO vs (S.length + 1), .lst []]) := by
    unfold sPutF
    have l1 : fLst true fNil [.loc S.length, formD vs] (S ++ [.ins [("form", formD vs)]]) = .ok (.loc (S.length + 1)) (S ++ [Ob.ins [("form", formD vs)]] ++ [Ob.lst []]) := by
      simp
    rw [l1]
    show (match (S ++ [Ob.ins [("form", formD vs)]] ++ [Ob.lst []])[S.length]? with
      | some (.ins fs) => bif Nat.blt fs.length 1000 then SR.nx [.loc S.length, formD vs] ((S ++ [Ob.ins [("form", formD vs)]] ++ [Ob.lst []]).set S.length (.ins (putD "points" (.loc (S.length + 1)) fs))) else .bad
      | _ => .bad) = _
    rw [g1]
    simp only
    rw [List.append_assoc, List.set_append_right _ _ (Nat.le_refl _)]
    simp
    rfl
  unfold f_Board___init__ fnK b_Board___init__
  show (match sSeq _ (sSeq _ _) [.loc S.length, formD vs] (S ++ [.ins []]) with
    | .rt d S' => Out.ok d S'
    | .nx _ S' => .ok .non S'
    | .xc c S' => .exc c S'
    | _ => .bad) = _
  rw [sSeq_nx e1, sSeq_nx e2, e3]
theorem t_make {vs : List Lv} {S S' : Sto} {fs : FA} {env : En} (h : Form vs) (hf : fs env S = .ok [formD vs] S') : fMake f_Board___init__ fs env S = .ok (.loc S'.length) (S' ++ [bdO vs (S'.length + 1), .lst []]) := by
  unfold fMake
  rw [hf, x_bind, t_init h]
  rfl
theorem x_lenO {F : Fn} {fo : FE} {env : En} {o : D} {k : Nat} {S : Sto} (h : fo env S = .ok o S) (hi : isObj "__len__" o S = true) (hF : F [o] S = .ok (.int k) S) (hk : k < 16777216) : fLenO F fo env S = .ok (.int k) S := by
  unfold fLenO
  rw [h, x_bind, hi, cond_true, hF, x_bind]
  simp only
  rw [decide_eq_true (by omega), decide_eq_true (by omega)]
  rfl

end Sf
end

section
set_option Elab.async false
set_option maxRecDepth 100000
set_option linter.all false
set_option maxHeartbeats 4000000
namespace Sf
open PySem L2
/-! a row at a place -/
theorem end_nxS {env : En} {S : Sto} {n : Nat} (h : S.length = n) : fnEnd false n (.nx env S) = .ok .non S := by subst h; exact endF_same
theorem low_intsN {n : Nat} : ∀ w : List Int, lowL n (w.map D.int) = true
  | [] => rfl
  | _ :: w => by
    show (true && lowL n (w.map D.int)) = true
    rw [low_intsN w]; rfl
theorem lsR_at {n : Nat} {l : List D} {S : Sto} (hn : S[n]? = some (.lst l)) : lsR (.loc n) S = some l := by
  show (match S[n]? with
    | some (.lst l) => some l
    | _ => none) = _
  rw [hn]
theorem x_lenV {n : Nat} {l : List D} {S : Sto} (hn : S[n]? = some (.lst l)) : oLen [.loc n] S = some (.int l.length, S) := by
  unfold oLen
  simp only
  rw [lsR_at hn]
theorem compV_all {g : D → En → Option En} {fe : FE} {env : En} {n : Nat} {S : Sto} {l : List D} {z : D} (hn : S[n]? = some (.lst l)) (h : ∀ d ∈ l, ∃ env1, g d env = some env1 ∧ fe env1 S = .ok z S) : ∀ (m i : Nat), i + m = l.length → compV g fe env n (m + 1) i S = .ok (List.replicate m z) S
  | 0, i, hm => by
    unfold compV
    rw [hn]
    have e : l[i]? = none := by rw [List.getElem?_eq_none_iff]; omega
    simp only [e]; rfl
  | m + 1, i, hm => by
    have hi : i < l.length := by omega
    unfold compV
    rw [hn]
    have e : l[i]? = some l[i] := List.getElem?_eq_getElem hi
    obtain ⟨env1, h1, h2⟩ := h l[i] (List.getElem_mem hi)
    simp only [e, h1, h2, compV_all hn h m (i + 1) (by omega)]
    rfl
theorem tnotF {t : FT} {b : Bool} {env : En} {S S1 : Sto} (h : t env S = .ok b S1) : Sf.tNot t env S = .ok (!b) S1 := by rw [x_not, h, x_bind]
section
variable {vs : List Lv} {rs : List Int} {n : Nat} {S : Sto}
theorem t_need_rowV (h : Row rs) (hn : S[n]? = some (.lst (rs.map D.int))) : f_need_row [.loc n] S = .ok .non S := by
  obtain ⟨h1, h3⟩ := h
  have i1 : oIsa [.loc n, .tup [.glob (.ty "list"), .glob (.ty "tuple")]] S = some (.bl true, S) := by
    unfold oIsa tyD; simp only [hn]; rfl
  have i2 := x_lenV hn
  rw [List.length_map] at i2
  have cv : fCompM false (fVar 0) (tgName 1) (fCall (pureF f_is_side) (fCons (fVar 1) (fNil))) [1] [.loc n, .und] S = .ok (.lst (rs.map fun _ => D.bl true)) S := by
    have e := compV_all (g := tgName 1) (fe := fCall (pureF f_is_side) (fCons (fVar 1) (fNil))) (env := [.loc n, .und]) (n := n) (S := S) (l := rs.map D.int) (z := .bl true) hn (fun d hd => by
      obtain ⟨x, hx, rfl⟩ := List.mem_map.mp hd
      exact ⟨[.loc n, .int x], rfl, callF (consF rfl x_nil) (t_is_side (h3 x hx))⟩) rs.length 0 (by simp)
    have u : fCompM false (fVar 0) (tgName 1) (fCall (pureF f_is_side) (fCons (fVar 1) (fNil))) [1] [.loc n, .und] S = (match S[n]? with
      | some (.lst l) => match compV (tgName 1) (fCall (pureF f_is_side) (fCons (fVar 1) (fNil))) [.loc n, .und] n (l.length + 1) 0 S with
        | .ok xs S2 => bif fit xs.length then Out.ok (.lst xs) S2 else .bad
        | _ => .bad
      | _ => .bad) := rfl
    rw [u, hn]
    simp only [List.length_map, e]
    rw [List.length_replicate, fit_of (by omega), List.map_const']; rfl
  have g1 : ¬ (200 : Int) < rs.length := by omega
  unfold f_need_row fn b_need_row
  show fnEnd false S.length (sIf _ _ _ [.loc n, .und] S) = _
  rw [sIf_no (S' := S) (by
    refine orFF (tnotF (b := true) (valF (opNF0 (consF rfl (consF (by rfl) x_nil)) i1))) (orFF (valF (op2F (opNF0 (consF rfl x_nil) i2) rfl ?_)) (tnotF (b := true) (valF (opNF0 (consF cv x_nil) (all_true _)))))
    simp [g1])]
  exact end_nxS rfl
theorem t_need_matchV (h : Form vs) (hs : Row rs) (hn : S[n]? = some (.lst (rs.map D.int))) : f_need_match [formD vs, .loc n] S = .ok .non S := by
  unfold f_need_match fn b_need_match
  show fnEnd false S.length (sSeq _ _ [formD vs, .loc n] S) = _
  rw [sSeq_nx (e' := [formD vs, .loc n]) (S' := S) (by rw [x_expr, callF (consF rfl x_nil) (t_need_form h)]; rfl)]
  rw [x_expr, callF (consF rfl x_nil) (t_need_rowV hs hn)]
  exact end_nxS rfl
theorem t_scoreV (h : Form vs) (hs : Row rs) (hn : S[n]? = some (.lst (rs.map D.int))) : f_score [formD vs, .loc n] S = .ok (stD (playL vs rs).st) S := by
  have e := (sofar h.2.2 _ rs rfl hs.2).1
  have p := t_playedD h hn
  rw [e] at p
  unfold f_score fn b_score
  show fnEnd false S.length (sSeq _ _ [formD vs, .loc n] S) = _
  rw [sSeq_nx (e' := [formD vs, .loc n]) (S' := S) (by rw [x_expr, callF (consF rfl (consF rfl x_nil)) (t_need_matchV h hs hn)]; rfl)]
  rw [x_ret, op2F (callF (consF rfl (consF rfl x_nil)) p) rfl (by rfl)]
  exact end_rt rfl
def mpV (vs : List Lv) (x : Play) : List Int := [0, 1].filter fun s => needsV vs x s == some 1
theorem endM_new {w : List Int} {S S' : Sto} (hlow : ∀ o ∈ S, lowO S.length o = true) (hS : S' = S ++ [.lst (w.map D.int)]) : fnEnd true S.length (.rt (.loc S.length) S') = .ok (.loc S.length) (S ++ [.lst (w.map D.int)]) := by
  subst hS
  show (bif Nat.ble S.length S.length then match (S ++ [Ob.lst (w.map D.int)])[S.length]? with
    | some o => bif ((S ++ [Ob.lst (w.map D.int)]).take S.length).all (lowO S.length) && lowO S.length o then Out.ok (D.loc S.length) ((S ++ [Ob.lst (w.map D.int)]).take S.length ++ [o]) else .bad
    | none => .bad else .bad) = _
  have e : (S ++ [Ob.lst (w.map D.int)])[S.length]? = some (.lst (w.map D.int)) := by simp
  have h : lowO S.length (.lst (w.map D.int)) = true := low_intsN w
  have t : (S ++ [Ob.lst (w.map D.int)]).take S.length = S := by simp
  have a : S.all (lowO S.length) = true := List.all_eq_true.mpr hlow
  rw [e, t]
  simp only [a, h, Bool.true_and, cond_true]
  rw [Nat.ble_eq_true_of_le (Nat.le_refl _)]; rfl
theorem t_match_pointsV (h : Form vs) (hs : Row rs) (hn : S[n]? = some (.lst (rs.map D.int))) (hlow : ∀ o ∈ S, lowO S.length o = true) : f_match_points [formD vs, .loc n] S = .ok (.loc S.length) (S ++ [.lst ((mpV vs (playL vs rs)).map D.int)]) := by
  have e := (sofar h.2.2 _ rs rfl hs.2).1
  have p := t_playedD h hn
  rw [e] at p
  have q : ∀ s : Int, s = 0 ∨ s = 1 → ∀ x5, tVal (fOp2 oEq (fCall (pureF f_needs_at) (fCons (fVar 0) (fCons (fVar 2) (fCons (fVar 3) (fCons (fVar 5) (fNil)))))) (fCon (.int 1))) [formD vs, .loc n, stD (playL vs rs).st, oI (playL vs rs).w, x5, .int s] S = .ok (needsV vs (playL vs rs) s == some 1) S := fun s h2 x5 => by
    have e4 := t_needs_at (S := S) (s := s) (x := playL vs rs) h h2 playL_len (play_NN h hs h2)
    have v3 : fVar 3 [formD vs, .loc n, stD (playL vs rs).st, oI (playL vs rs).w, x5, .int s] S = .ok (oI (playL vs rs).w) S := by cases (playL vs rs).w <;> rfl
    refine valF (op2F (callF (consF rfl (consF rfl (consF v3 (consF rfl x_nil)))) e4) rfl ?_)
    cases needsV vs (playL vs rs) s with
    | none => simp
    | some v => by_cases h : v = 1 <;> simp [h]
  unfold f_match_points fnN b_match_points
  show (match sSeq _ (sSeq _ _) [formD vs, .loc n, .und, .und, .und, .und] S with
    | .rt (.loc i) S' => fnEnd true S.length (.rt (.loc i) S')
    | r => fnEnd false S.length r) = _
  rw [sSeq_nx (e' := [formD vs, .loc n, .und, .und, .und, .und]) (S' := S) (by rw [x_expr, callF (consF rfl (consF rfl x_nil)) (t_need_matchV h hs hn)]; rfl)]
  rw [sSeq_nx (e' := [formD vs, .loc n, stD (playL vs rs).st, oI (playL vs rs).w, .int (playL vs rs).m, .und]) (S' := S) (by
    show (fCall f_played (fCons (fVar 0) (fCons (fVar 1) (fNil))) [formD vs, .loc n, .und, .und, .und, .und] S).bindS _ = _
    rw [callF (consF rfl (consF rfl x_nil)) p]; rfl)]
  have c : fComp true (iSq (fTup (fCons (fCon (.int 0)) (fCons (fCon (.int 1)) (fNil))))) (tgName 5) (tVal (fOp2 oEq (fCall (pureF f_needs_at) (fCons (fVar 0) (fCons (fVar 2) (fCons (fVar 3) (fCons (fVar 5) (fNil)))))) (fCon (.int 1)))) (fVar 5) [5] [formD vs, .loc n, stD (playL vs rs).st, oI (playL vs rs).w, .int (playL vs rs).m, .und] S = .ok (.loc S.length) (S ++ [.lst ((mpV vs (playL vs rs)).map D.int)]) := by
    have c1 : compL (tgName 5) (tVal (fOp2 oEq (fCall (pureF f_needs_at) (fCons (fVar 0) (fCons (fVar 2) (fCons (fVar 3) (fCons (fVar 5) (fNil)))))) (fCon (.int 1)))) (fVar 5) [formD vs, .loc n, stD (playL vs rs).st, oI (playL vs rs).w, .int (playL vs rs).m, .und] [.int 0, .int 1] S = .ok ((mpV vs (playL vs rs)).map D.int) S := by
      have q0 := q 0 (.inl rfl) (.int (playL vs rs).m)
      have q1 := q 1 (.inr rfl) (.int (playL vs rs).m)
      unfold mpV
      cases h0 : (needsV vs (playL vs rs) 0 == some 1) <;> cases h1 : (needsV vs (playL vs rs) 1 == some 1) <;> rw [h0] at q0 <;> rw [h1] at q1 <;>
        simp [compL, tgName, q0, q1, h0, h1, -beq_iff_eq, -x_val, -x_op2, -x_call]
    show (match compL (tgName 5) _ (fVar 5) [formD vs, .loc n, stD (playL vs rs).st, oI (playL vs rs).w, .int (playL vs rs).m, .und] [.int 0, .int 1] S with
      | .ok xs S2 => Out.ok (D.loc S2.length) (S2 ++ [Ob.lst xs])
      | _ => Out.bad) = _
    rw [c1]
  rw [x_ret, c]
  exact endM_new hlow rfl
end

end Sf
end

section
set_option Elab.async false
set_option maxRecDepth 100000
set_option linter.all false
set_option maxHeartbeats 4000000
namespace Sf
open PySem L2
/-! the program's surplus -/
def decRow : D → List Int
  | .lst l => (intsD l).getD []
  | _ => []
def rndsV (v : Lv) : List (List Int) := match f_rounds [v.D] [] with
  | .ok (.lst l) [] => l.map decRow
  | _ => []
theorem low_lvx {v : Lv} : lowL 0 [v.D] = true := by simp [lowL, low_Lv]
theorem t_rounds {v : Lv} {S : Sto} (hv : v ∈ lvAll) : pureF f_rounds [v.D] S = .ok (.lst ((rndsV v).map rowD)) S := by
  have h : (lvAll.all fun v => chk (f_rounds [v.D] []) (.lst ((rndsV v).map rowD))) = true := by decide +kernel
  exact pure_eq low_lvx (chk_ok (all_ok h hv))
/-- every path is a round -/
def pathOk (v : Lv) (p : List Int) : Bool := (match rwM v (cntP p) with
  | some s => decide (s = 0 ∨ s = 1) && mtB [v] s p
  | none => false)
theorem paths_ok {v : Lv} (hv : v ∈ lvAll) {p : List Int} (hp : p ∈ rndsV v) : ∃ s, (s = 0 ∨ s = 1) ∧ rwM v (cntP p) = some s ∧ Mt [v] s p ∧ Sides p ∧ p.length ≤ 20 := by
  have h : (lvAll.all fun v => (rndsV v).all fun p => pathOk v p && Nat.ble p.length 20) = true := by decide +kernel
  have h := List.all_eq_true.mp (all_ok h hv) p hp
  rw [Bool.and_eq_true] at h
  have h2 := Nat.le_of_ble_eq_true h.2
  have h := h.1
  unfold pathOk at h
  cases hq : rwM v (cntP p) with
  | none => rw [hq] at h; cases h
  | some s =>
    rw [hq] at h
    simp only [Bool.and_eq_true, decide_eq_true_eq] at h
    obtain ⟨m1, m2⟩ := mt_of h.2
    exact ⟨s, h.1, rfl, m1, m2, h2⟩
theorem paths_some {v : Lv} (hv : v ∈ lvAll) {s : Int} (hs : s = 0 ∨ s = 1) : ∃ p ∈ rndsV v, rwM v (cntP p) = some s := by
  have h : (lvAll.all fun v => [0, 1].all fun s => (rndsV v).any fun p => decide (rwM v (cntP p) = some s)) = true := by decide +kernel
  have h := List.all_eq_true.mp (all_ok h hv) s (by simp; omega)
  obtain ⟨p, hp, h⟩ := List.any_eq_true.mp h
  exact ⟨p, hp, of_decide_eq_true h⟩
theorem rnds_len {v : Lv} (hv : v ∈ lvAll) : (rndsV v).length ≤ 200 := by
  have h : (lvAll.all fun v => Nat.ble (rndsV v).length 200) = true := by decide +kernel
  exact Nat.le_of_ble_eq_true (all_ok h hv)
abbrev Un := (Int × Int) × (Int × Int)
def uOf (u : Un) (x : Int) : Int × Int := if x = 0 then u.1 else u.2
def valU (u : Un) (p : List Int) : Int := (p.map fun x => (uOf u x).1).sum
def ptsU (u : Un) (p : List Int) : Int := (p.map fun x => (uOf u x).2).sum
abbrev BR := Int × Int × List Int
def betB (a b : Int × Int) : Bool := decide (a.1 < b.1) || (decide (a.1 = b.1) && decide (a.2 < b.2))
def stepQ (v : Lv) (u : Un) (s : Int) (o : Option BR) (p : List Int) : Option BR :=
  if rwM v (cntP p) = some s then (match o with
    | none => some (-valU u p, ptsU u p, p)
    | some b => if betB (-valU u p, ptsU u p) (b.1, b.2.1) = true then some (-valU u p, ptsU u p, p) else some b) else o
def bestQ (v : Lv) (u : Un) (s : Int) : Option BR := (rndsV v).foldl (stepQ v u s) none
theorem stepQ_fold {v : Lv} {u : Un} {s : Int} : ∀ (l : List (List Int)) (o : Option BR),
    (∀ b, o = some b → ∃ c, l.foldl (stepQ v u s) o = some c ∧ betB (b.1, b.2.1) (c.1, c.2.1) = false) ∧
    (∀ p ∈ l, rwM v (cntP p) = some s → ∃ c, l.foldl (stepQ v u s) o = some c ∧ betB (-valU u p, ptsU u p) (c.1, c.2.1) = false) ∧
    (∀ c, l.foldl (stepQ v u s) o = some c → o = some c ∨ (c.2.2 ∈ l ∧ rwM v (cntP c.2.2) = some s ∧ c.1 = -valU u c.2.2 ∧ c.2.1 = ptsU u c.2.2))
  | [], o => ⟨fun b h => ⟨b, h, by simp [betB]⟩, by simp, fun c h => .inl h⟩
  | p :: l, o => by
    have tr : ∀ a b c : Int × Int, betB a b = false → betB b c = false → betB a c = false := fun a b c h1 h2 => by
      unfold betB at *
      simp at *
      omega
    have rf : ∀ a : Int × Int, betB a a = false := fun a => by simp [betB]
    have as : ∀ a b : Int × Int, betB a b = true → betB b a = false := fun a b h => by unfold betB at *; simp at *; omega
    obtain ⟨i1, i2, i3⟩ := stepQ_fold (v := v) (u := u) (s := s) l (stepQ v u s o p)
    rw [List.foldl_cons]
    have key : (∀ b, o = some b → ∃ c, stepQ v u s o p = some c ∧ betB (b.1, b.2.1) (c.1, c.2.1) = false) ∧ (rwM v (cntP p) = some s → ∃ c, stepQ v u s o p = some c ∧ betB (-valU u p, ptsU u p) (c.1, c.2.1) = false) ∧
        (∀ c, stepQ v u s o p = some c → o = some c ∨ (c.2.2 = p ∧ rwM v (cntP c.2.2) = some s ∧ c.1 = -valU u c.2.2 ∧ c.2.1 = ptsU u c.2.2)) := by
      unfold stepQ
      by_cases h : rwM v (cntP p) = some s
      · rw [if_pos h]
        cases o with
        | none => exact ⟨fun b h => (by cases h), fun _ => ⟨_, rfl, rf _⟩, fun c hc => .inr (by cases hc; exact ⟨rfl, h, rfl, rfl⟩)⟩
        | some b =>
          simp only
          by_cases hb : betB (-valU u p, ptsU u p) (b.1, b.2.1) = true
          · rw [if_pos hb]
            exact ⟨fun b' e => (by cases e; exact ⟨_, rfl, as _ _ hb⟩), fun _ => ⟨_, rfl, rf _⟩, fun c hc => .inr (by cases hc; exact ⟨rfl, h, rfl, rfl⟩)⟩
          · rw [if_neg hb]
            exact ⟨fun b' e => (by cases e; exact ⟨_, rfl, rf _⟩), fun _ => ⟨_, rfl, by simpa using hb⟩, fun c hc => .inl hc⟩
      · rw [if_neg h]
        exact ⟨fun b e => ⟨b, e, rf _⟩, fun z => absurd z h, fun c hc => .inl hc⟩
    obtain ⟨k1, k2, k3⟩ := key
    refine ⟨fun b hb => ?_, fun q hq hr => ?_, fun c hc => ?_⟩
    · obtain ⟨c, hc, h⟩ := k1 b hb
      obtain ⟨d, hd, h'⟩ := i1 c hc
      exact ⟨d, hd, tr _ _ _ h h'⟩
    · rcases List.mem_cons.mp hq with rfl | hq
      · obtain ⟨c, hc, h⟩ := k2 hr
        obtain ⟨d, hd, h'⟩ := i1 c hc
        exact ⟨d, hd, tr _ _ _ h h'⟩
      · exact i2 q hq hr
    · rcases i3 c hc with h | ⟨h1, h2⟩
      · rcases k3 c h with h | ⟨h1, h2⟩
        · exact .inl h
        · exact .inr ⟨by rw [h1]; simp, h2⟩
      · exact .inr ⟨by simp [h1], h2⟩
/-- the best path of a level -/
structure BestOk (v : Lv) (u : Un) (s : Int) (b : BR) : Prop where
  mem : b.2.2 ∈ rndsV v
  win : rwM v (cntP b.2.2) = some s
  val : b.1 = -valU u b.2.2
  pts : b.2.1 = ptsU u b.2.2
  best : ∀ p ∈ rndsV v, rwM v (cntP p) = some s → betB (-valU u p, ptsU u p) (b.1, b.2.1) = false
theorem bestQ_ok {v : Lv} {u : Un} {s : Int} (hv : v ∈ lvAll) (hs : s = 0 ∨ s = 1) : ∃ b, bestQ v u s = some b ∧ BestOk v u s b := by
  obtain ⟨h1, h2, h3⟩ := stepQ_fold (v := v) (u := u) (s := s) (rndsV v) none
  obtain ⟨p, hp, hw⟩ := paths_some hv hs
  obtain ⟨b, hb, _⟩ := h2 p hp hw
  refine ⟨b, hb, ?_⟩
  obtain ⟨a1, a2, a3, a4⟩ := (h3 b hb).resolve_left (by simp)
  exact ⟨a1, a2, a3, a4, fun q hq hr => by obtain ⟨c, hc, h⟩ := h2 q hq hr; rw [hb] at hc; cases hc; exact h⟩
def unD (u : Un) : D := .tup [.tup [.int u.1.1, .int u.1.2], .tup [.int u.2.1, .int u.2.2]]
def brD (b : BR) : D := .tup [.int b.1, .int b.2.1, rowD b.2.2]
def oBR : Option BR → D
  | some b => brD b
  | none => .non
def brB : FS := (sIf (tVal (fOp2 oEq (fCall (pureF f_round_winner) (fCons (fVar 0) (fCons (fTup (fCons (fMethL mCount (fVar 4) (fCons (fCon (.int 0)) (fNil))) (fCons (fMethL mCount (fVar 4) (fCons (fCon (.int 1)) (fNil))) (fNil)))) (fNil)))) (fIf (tVal (fVar 1)) (fCon (.int 0)) (fCon (.int 1))))) (sSeq (sAsg 5 (fOpN oSum (fCons (fComp false (iSq (fVar 4)) (tgName 7) (tYesF) (fOp2 oIx (fOp2 oIx (fVar 2) (fVar 7)) (fCon (.int 0))) [7]) (fNil))))
    (sSeq (sAsg 6 (fOpN oSum (fCons (fComp false (iSq (fVar 4)) (tgName 7) (tYesF) (fOp2 oIx (fOp2 oIx (fVar 2) (fVar 7)) (fCon (.int 1))) [7]) (fNil))))
    (sIf (Sf.tOr (tVal (fOp2 oIs (fVar 3) (fCon .non))) (tVal (fOp2 oLt (fTup (fCons (fOp1 oNeg (fVar 5)) (fCons (fVar 6) (fNil)))) (fCut false (fVar 3) (fNoPart) (fPart (fCon (.int 2))))))) (sAsg 3 (fTup (fCons (fOp1 oNeg (fVar 5)) (fCons (fVar 6) (fCons (fVar 4) (fNil)))))) (sSkip)))) (sSkip))
theorem sum_ints {l : List Int} {S : Sto} : oSum [.lst (l.map D.int)] S = some (.int l.sum, S) := by
  show (match lsR (.lst (l.map D.int)) S with
    | some l => match intsD l with
      | some ns => some (D.int ns.sum, S)
      | _ => none
    | none => none) = _
  have e : lsR (.lst (l.map D.int)) S = some (l.map D.int) := rfl
  rw [e]; simp only; rw [intsD_ints]
theorem lt_pair {a b c d : Int} {S : Sto} : oLt (.tup [.int a, .int b]) (.tup [.int c, .int d]) S = some (.bl (betB (a, b) (c, d)), S) := by
  have e : HT.lexLt [a, b] [c, d] = betB (a, b) (c, d) := by
    unfold betB
    simp only [HT.lexLt]
    by_cases h1 : a = c
    · subst h1
      by_cases h2 : b = d
      · subst h2; simp
      · simp [h2]
    · simp [h1]
  show (match intsD [.int a, .int b], intsD [.int c, .int d] with
    | some ns, some ms => some (D.bl (HT.lexLt ns ms), S)
    | _, _ => none) = _
  rw [← e]; rfl
theorem cut2 {a b c : D} {S : Sto} : oCut false (.tup [a, b, c]) none (some 2) S = some (.tup [a, b], S) := rfl
theorem t_brB {v : Lv} {u : Un} {w : Bool} {s : Int} {p : List Int} {o : Option BR} {x5 x6 x7 : D} (hw : s = if w = true then 0 else 1) (hp : Sides p) (hl : p.length ≤ 20) :
    ∃ y5 y6 y7, brB [v.D, .bl w, unD u, oBR o, rowD p, x5, x6, x7] [] = .nx [v.D, .bl w, unD u, oBR (stepQ v u s o p), rowD p, y5, y6, y7] [] := by
  have e1 := fun S => t_rw (v := v) (p := cntP p) (S := S)
  have c0 := fun S => count_row (l := p) (k := 0) (S := S)
  have c1 := fun S => count_row (l := p) (k := 1) (S := S)
  have il : ∀ S, isLs (rowD p) S = true := fun _ => rfl
  have fl : fit p.length = true := fit_of (by omega)
  have cm : ∀ (k : Int) (f : Int × Int → Int) (a b c : D), (∀ q : Int × Int, ixD [.int q.1, .int q.2] k = some (.int (f q))) → compL (tgName 7) tYesF (fOp2 oIx (fOp2 oIx (fVar 2) (fVar 7)) (fCon (.int k))) [v.D, .bl w, unD u, a, rowD p, b, c, .und] (p.map D.int) [] = .ok ((p.map fun x => f (uOf u x)).map D.int) [] := fun k f a b c hk => by
    have := comp_map D.int (fun x => D.int (f (uOf u x))) (fOp2 oIx (fOp2 oIx (fVar 2) (fVar 7)) (fCon (.int k))) [v.D, .bl w, unD u, a, rowD p, b, c, .und] 7 [] p fun x hx => by
      rcases hp x hx with rfl | rfl
      · simp [unD, uOf, hk]
      · simp [unD, uOf, hk]
    rw [this, List.map_map]; rfl
  have s0 : ∀ a b c, compL (tgName 7) tYesF (fOp2 oIx (fOp2 oIx (fVar 2) (fVar 7)) (fCon (.int 0))) [v.D, .bl w, unD u, a, rowD p, b, c, .und] (p.map D.int) [] = .ok ((p.map fun x => (uOf u x).1).map D.int) [] := fun a b c => cm 0 Prod.fst a b c fun q => rfl
  have s1 : ∀ a b c, compL (tgName 7) tYesF (fOp2 oIx (fOp2 oIx (fVar 2) (fVar 7)) (fCon (.int 1))) [v.D, .bl w, unD u, a, rowD p, b, c, .und] (p.map D.int) [] = .ok ((p.map fun x => (uOf u x).2).map D.int) [] := fun a b c => cm 1 Prod.snd a b c fun q => rfl
  have m0 := fun S => sum_ints (l := p.map fun x => (uOf u x).1) (S := S)
  have m1 := fun S => sum_ints (l := p.map fun x => (uOf u x).2) (S := S)
  have v0 : (p.map fun x => (uOf u x).1).sum = valU u p := rfl
  have v1 : (p.map fun x => (uOf u x).2).sum = ptsU u p := rfl
  rw [v0] at m0
  rw [v1] at m1
  have es : ∀ S, (fIf (tVal (fVar 1)) (fCon (.int 0)) (fCon (.int 1))) [v.D, .bl w, unD u, oBR o, rowD p, x5, x6, x7] S = .ok (.int s) S := fun S => by
    cases w <;> simp [hw]
  have hcp : prD (cntP p) = .tup [.int (p.count 0 : Nat), .int (p.count 1 : Nat)] := rfl
  rw [hcp] at e1
  have eq : ∀ S, oEq (oI (rwM v (cntP p))) (.int s) S = some (.bl (decide (rwM v (cntP p) = some s)), S) := fun S => by
    cases rwM v (cntP p) with
    | none => rfl
    | some k => simp
  unfold stepQ
  by_cases hr : rwM v (cntP p) = some s
  · rw [if_pos hr]
    rw [decide_eq_true hr] at eq
    rw [hr] at e1 eq
    have e1 : ∀ S, pureF f_round_winner [v.D, .tup [.int (p.count 0 : Nat), .int (p.count 1 : Nat)]] S = .ok (.int s) S := e1
    have e1 : ∀ S, pureF f_round_winner [.tup [.int v.t, .int v.l, oI v.c], .tup [.int (p.count 0 : Nat), .int (p.count 1 : Nat)]] S = .ok (.int s) S := e1
    unfold Lv.D unD at *
    cases o with
    | none =>
      refine ⟨.int (valU u p), .int (ptsU u p), x7, ?_⟩
      unfold brB
      cases w <;> simp at hw <;> subst hw <;> simp [-List.map_map, -List.map_subtype, oBR, c0, c1, e1, s0, s1, fl, m0, m1, brD]
    | some b =>
      refine ⟨.int (valU u p), .int (ptsU u p), x7, ?_⟩
      have lt := fun S => lt_pair (a := -valU u p) (b := ptsU u p) (c := b.1) (d := b.2.1) (S := S)
      have ct : ∀ S, oCut false (.tup [.int b.1, .int b.2.1, rowD b.2.2]) none (some 2) S = some (.tup [.int b.1, .int b.2.1], S) := fun S => cut2
      unfold brB
      cases hb : betB (-valU u p, ptsU u p) (b.1, b.2.1) <;> rw [hb] at lt <;> cases w <;> simp at hw <;> subst hw <;> simp [-List.map_map, -List.map_subtype, oBR, c0, c1, e1, s0, s1, fl, m0, m1, brD, ct, lt, hb]
  · rw [if_neg hr]
    rw [decide_eq_false hr] at eq
    refine ⟨x5, x6, x7, ?_⟩
    unfold Lv.D unD at *
    unfold brB
    cases w <;> simp at hw <;> subst hw <;> cases hq : rwM v (cntP p) <;> rw [hq] at e1 eq hr <;> simp only [oI_none, oI_some] at e1 eq <;> simp at hr <;> simp [c0, c1, e1, hr]
theorem t_best_row {v : Lv} {u : Un} {w : Bool} {s : Int} {S : Sto} (hv : v ∈ lvAll) (hw : s = if w = true then 0 else 1) :
    ∃ b, bestQ v u s = some b ∧ BestOk v u s b ∧ ∀ S, pureF f_best_row [v.D, .bl w, unD u] S = .ok (.tup [.int (-b.1), .int b.2.1, rowD b.2.2]) S := by
  have hs : s = 0 ∨ s = 1 := by cases w <;> simp at hw <;> omega
  obtain ⟨b, hb, ok⟩ := bestQ_ok (u := u) hv hs
  refine ⟨b, hb, ok, fun S => pure_eq (by simp [lowL, low_Lv, lowD, unD]) ?_⟩
  have er := fun S => t_rounds (S := S) hv
  obtain ⟨env', S', e, i⟩ := forE (g := tgName 4) (b := brB) (enc := rowD) (inv := fun o env S => S = [] ∧ ∃ x4 x5 x6 x7, env = [v.D, .bl w, unD u, oBR o, x4, x5, x6, x7]) (step := stepQ v u s) (rndsV v) none [v.D, .bl w, unD u, .non, .und, .und, .und, .und] []
    (fun p hp o env S h => by
      obtain ⟨rfl, x4, x5, x6, x7, rfl⟩ := h
      obtain ⟨_, _, _, _, hsd, hl⟩ := paths_ok hv hp
      obtain ⟨y5, y6, y7, e⟩ := t_brB (v := v) (u := u) (o := o) (x5 := x5) (x6 := x6) (x7 := x7) hw hsd hl
      exact ⟨_, _, [], rfl, e, rfl, _, _, _, _, rfl⟩) ⟨rfl, _, _, _, _, rfl⟩
  obtain ⟨rfl, x4, x5, x6, x7, rfl⟩ := i
  have hb' : (rndsV v).foldl (stepQ v u s) none = some b := hb
  rw [hb'] at e
  unfold f_best_row fn b_best_row
  change fnEnd false 0 (sSeq _ (sSeq (sFor _ _ brB) _) _ _) = _
  have ng : ∀ i S, oNeg (.int i) S = some (.int (-i), S) := fun _ _ => rfl
  unfold Lv.D unD at *
  simp [er, e, oBR, brD, end_rt]

end Sf
end

section
set_option Elab.async false
set_option maxRecDepth 100000
set_option linter.all false
set_option maxHeartbeats 4000000
namespace Sf
open PySem L2
/-! plain: the greatest surplus -/
def LEx (a b : Int × Int) : Prop := a.1 < b.1 ∨ (a.1 = b.1 ∧ b.2 ≤ a.2)
theorem LEx.trans {a b c : Int × Int} (h : LEx a b) (h' : LEx b c) : LEx a c := by unfold LEx at *; omega
theorem LEx.add {a b c d : Int × Int} (h : LEx a b) (h' : LEx c d) : LEx (a.1 + c.1, a.2 + c.2) (b.1 + d.1, b.2 + d.2) := by unfold LEx at *; simp only; omega
def val0 (R : List Int) : Int := (R.count 1 : Nat) - (R.count 0 : Nat)
theorem val0_app {a b : List Int} : val0 (a ++ b) = val0 a + val0 b := by unfold val0; rw [List.count_append, List.count_append]; omega
structure Good (P : Int → List Int → Prop) (u : Un) (r : Int → List Int) : Prop where
  ub : ∀ s R, s = 0 ∨ s = 1 → P s R → LEx (val0 R, R.length) (uOf u s)
  at' : ∀ s, s = 0 ∨ s = 1 → P s (r s) ∧ val0 (r s) = (uOf u s).1 ∧ ((r s).length : Int) = (uOf u s).2
  pos : 1 ≤ u.1.2 ∧ 1 ≤ u.2.2
theorem valU_cons {u : Un} {x : Int} {p : List Int} : valU u (x :: p) = (uOf u x).1 + valU u p ∧ ptsU u (x :: p) = (uOf u x).2 + ptsU u p := by unfold valU ptsU; simp
theorem sum_blocks {P : Int → List Int → Prop} {u : Un} {r : Int → List Int} (g : Good P u r) : ∀ bs : List (List Int × Int), (∀ b ∈ bs, (b.2 = 0 ∨ b.2 = 1) ∧ P b.2 b.1) → LEx (val0 (bs.map (·.1)).flatten, ((bs.map (·.1)).flatten.length : Nat)) (valU u (bs.map (·.2)), ptsU u (bs.map (·.2)))
  | [], _ => by simp [valU, ptsU, val0, LEx]
  | b :: bs, h => by
    obtain ⟨h1, h2⟩ := h b (by simp)
    have i := sum_blocks g bs fun b hb => h b (by simp [hb])
    have a := (g.ub _ _ h1 h2).add i
    simp only [List.map_cons, List.flatten_cons, val0_app, List.length_append, Int.natCast_add]
    rw [valU_cons.1, valU_cons.2]
    exact a
theorem sum_path {P : Int → List Int → Prop} {u : Un} {r : Int → List Int} (g : Good P u r) : ∀ p : List Int, Sides p → val0 (p.map r).flatten = valU u p ∧ ((p.map r).flatten.length : Int) = ptsU u p
  | [], _ => by simp [valU, ptsU, val0]
  | x :: p, h => by
    obtain ⟨i1, i2⟩ := sum_path g p fun r hr => h r (by simp [hr])
    obtain ⟨_, a1, a2⟩ := g.at' x (h x (by simp))
    simp only [List.map_cons, List.flatten_cons, val0_app, List.length_append, Int.natCast_add]
    rw [valU_cons.1, valU_cons.2, i1, i2, a1, a2]
    exact ⟨rfl, rfl⟩
theorem valU_cnt {u : Un} : ∀ p : List Int, Sides p → valU u p = (cntP p).1 * u.1.1 + (cntP p).2 * u.2.1 ∧ ptsU u p = (cntP p).1 * u.1.2 + (cntP p).2 * u.2.2
  | [], _ => by simp [valU, ptsU, cntP]
  | x :: p, h => by
    obtain ⟨i1, i2⟩ := valU_cnt (u := u) p fun r hr => h r (by simp [hr])
    rw [valU_cons.1, valU_cons.2, i1, i2]
    rcases h x (by simp) with rfl | rfl
    · have e : cntP (0 :: p) = ((cntP p).1 + 1, (cntP p).2) := by simp [cntP]
      rw [e]; simp only [uOf, if_true]
      rw [Int.add_mul, Int.add_mul]; omega
    · have e : cntP (1 :: p) = ((cntP p).1, (cntP p).2 + 1) := by simp [cntP]
      rw [e]; simp only [uOf]
      rw [if_neg (by decide), Int.add_mul, Int.add_mul]; omega
/-- how a round ends, as a test -/
def finB (v : Lv) (s : Int) (q : Pr) : Bool :=
  let p : Pr := if s = 0 then (q.1 - 1, q.2) else (q.1, q.2 - 1)
  decide (0 ≤ p.1) && decide (0 ≤ p.2) && !(decide (v.t ≤ p.1) && decide (v.l ≤ p.1 - p.2)) && !(decide (v.t ≤ p.2) && decide (v.l ≤ p.2 - p.1)) &&
  (match v.c with
    | none => true
    | some c => decide (p.1 < c) && decide (p.2 < c)) && (!decide (v.l = 1) || (decide (p.1 < v.t) && decide (p.2 < v.t))) && lwonP v q s
theorem fin_of {v : Lv} {s : Int} {us : List Int} (hv : v.Ok) (hu : Sides us) (h : Mt [v] s us) : finB v s (cntP us) = true := by
  obtain ⟨r, w, e⟩ := h.one hv hu
  have s1 := h.sides hu
  obtain ⟨h1, h2, h3, h4⟩ := r
  rw [e]
  generalize cntP us.dropLast = p at h1 h2 h3 h4 w
  obtain ⟨a, b⟩ := p
  obtain ⟨n1, n2, n3⟩ := h3
  simp only at h1 h2 h4 n1 n2 n3
  have hp : (if s = 0 then (((plusM (a, b) s).1 - 1, (plusM (a, b) s).2) : Pr) else ((plusM (a, b) s).1, (plusM (a, b) s).2 - 1)) = (a, b) := by
    rcases s1 with rfl | rfl <;> simp [plusM]
  unfold finB
  simp only [hp]
  rw [w]
  cases hc : v.c with
  | none =>
    simp
    refine ⟨⟨⟨⟨h1, h2⟩, by omega⟩, by omega⟩, ?_⟩
    · by_cases c : v.l = 1
      · exact .inr (h4 c)
      · exact .inl c
  | some c =>
    have := n3 c hc
    simp
    refine ⟨⟨⟨⟨⟨h1, h2⟩, by omega⟩, by omega⟩, this⟩, ?_⟩
    · by_cases c : v.l = 1
      · exact .inr (h4 c)
      · exact .inl c
def rngS : List Int := [0, 1, 2, 3, 4, 5, 6, 7, 8]
theorem cover {v : Lv} {s : Int} {q : Pr} (hv : v ∈ lvAll) (hs : s = 0 ∨ s = 1) (hq : 0 ≤ q.1 ∧ q.1 ≤ 8 ∧ 0 ≤ q.2 ∧ q.2 ≤ 8) (hb : v.c = none → q.1 ≤ v.t + v.l ∧ q.2 ≤ v.t + v.l) (h : finB v s q = true) : ∃ p ∈ rndsV v, cntP p = q ∧ rwM v (cntP p) = some s := by
  have key : (lvAll.all fun v => [0, 1].all fun s => rngS.all fun a => rngS.all fun b => !(finB v s (a, b) && (v.c.isSome || (decide (a ≤ v.t + v.l) && decide (b ≤ v.t + v.l)))) || (rndsV v).any fun p => decide (cntP p = (a, b)) && decide (rwM v (cntP p) = some s)) = true := by decide +kernel
  obtain ⟨a, b⟩ := q
  simp only at hq hb
  have k := List.all_eq_true.mp (List.all_eq_true.mp (List.all_eq_true.mp (all_ok key hv) s (by simp; omega)) a (by unfold rngS; simp; omega)) b (by unfold rngS; simp; omega)
  have hc : (v.c.isSome || (decide (a ≤ v.t + v.l) && decide (b ≤ v.t + v.l))) = true := by
    cases hc : v.c with
    | some c => rfl
    | none => have := hb hc; rw [decide_eq_true this.1, decide_eq_true this.2]; rfl
  rw [h, hc] at k
  simp only [Bool.and_self, Bool.not_true, Bool.false_or] at k
  obtain ⟨p, hp, k⟩ := List.any_eq_true.mp k
  rw [Bool.and_eq_true] at k
  exact ⟨p, hp, of_decide_eq_true k.1, of_decide_eq_true k.2⟩
theorem level_bound {v : Lv} {u : Un} {s : Int} {us : List Int} {b : BR} (hv : v ∈ lvAll) (hs : s = 0 ∨ s = 1) (hu : Sides us) (h : Mt [v] s us) (hp : 1 ≤ u.1.2 ∧ 1 ≤ u.2.2) (ho : v.c = none → 1 < v.l → u.1.1 + u.2.1 ≤ 0) (hb : BestOk v u s b) :
    LEx (valU u us, ptsU u us) (-b.1, b.2.1) := by
  have hvo := lvAll_ok hv
  have hf := fin_of hvo hu h
  obtain ⟨r, w, e⟩ := h.one hvo hu
  have use : ∀ p ∈ rndsV v, rwM v (cntP p) = some s → LEx (valU u us, ptsU u us) (valU u p, ptsU u p) → LEx (valU u us, ptsU u us) (-b.1, b.2.1) := fun p hp hr hl => by
    refine hl.trans ?_
    have := hb.best p hp hr
    unfold betB at this
    unfold LEx
    simp at this ⊢
    omega
  have hx : (lvAll.all fun v => match v.c with
    | some c => decide (c ≤ 7)
    | none => decide (v.t + v.l ≤ 7)) = true := by decide +kernel
  have hx := all_ok hx hv
  have nn : 0 ≤ (cntP us).1 ∧ 0 ≤ (cntP us).2 := by unfold cntP; simp
  have same : (v.c = none → (cntP us).1 ≤ v.t + v.l ∧ (cntP us).2 ≤ v.t + v.l) → LEx (valU u us, ptsU u us) (-b.1, b.2.1) := fun hin => by
    obtain ⟨p, hp, hc, hr⟩ := cover hv hs (by
      refine ⟨nn.1, ?_, nn.2, ?_⟩
      · cases hc : v.c with
        | none => rw [hc] at hx; have := of_decide_eq_true hx; have := hin hc; omega
        | some c =>
          rw [hc] at hx
          have := of_decide_eq_true hx
          have := r.nt.2.2 c hc
          rw [e]; unfold plusM; split <;> simp <;> omega
      · cases hc : v.c with
        | none => rw [hc] at hx; have := of_decide_eq_true hx; have := hin hc; omega
        | some c =>
          rw [hc] at hx
          have := of_decide_eq_true hx
          have := r.nt.2.2 c hc
          rw [e]; unfold plusM; split <;> simp <;> omega) hin hf
    refine use p hp hr ?_
    obtain ⟨_, _, _, _, sp, _⟩ := paths_ok hv hp
    have a := valU_cnt (u := u) us hu
    have b := valU_cnt (u := u) p sp
    rw [hc, ← a.1] at b
    rw [b.1, b.2, a.2]
    exact .inr ⟨rfl, Int.le_refl _⟩
  by_cases hin : v.c = none → (cntP us).1 ≤ v.t + v.l ∧ (cntP us).2 ≤ v.t + v.l
  · exact same hin
  · have hc : v.c = none := by
      cases hc : v.c with
      | none => rfl
      | some c => exact absurd (fun z => by rw [hc] at z; cases z) hin
    have hout : ¬ ((cntP us).1 ≤ v.t + v.l ∧ (cntP us).2 ≤ v.t + v.l) := fun z => hin fun _ => z
    rw [hc] at hx
    have hx := of_decide_eq_true hx
    -- both sides have many units: only the difference counts
    have hl : 1 < v.l := by
      have := hvo.2.2.1
      rcases Int.lt_or_le 1 v.l with z | z
      · exact z
      · exfalso
        have := r.one (by omega)
        apply hout
        rw [e]; unfold plusM; split <;> simp <;> omega
    have ho := ho hc hl
    obtain ⟨n1, n2, _⟩ := r.nt
    have hd : ∃ k : Int, 0 < k ∧ cntP us = (if s = 0 then (v.t + v.l + k, v.t + k) else (v.t + k, v.t + v.l + k)) := by
      generalize cntP us.dropLast = p at *
      obtain ⟨a, b⟩ := p
      rw [e] at hout ⊢
      simp only at n1 n2
      have hn : ∀ x y : Int, lwon v x y = true → v.t ≤ x ∧ v.l ≤ x - y := fun x y h => by unfold lwon at h; rw [hc] at h; simpa using h
      rcases hs with rfl | rfl
      · have w2 := hn _ _ (show lwon v (a + 1) b = true from w)
        simp [plusM] at hout ⊢
        refine ⟨b - v.t, by omega, by omega, by omega⟩
      · have w2 := hn _ _ (show lwon v (b + 1) a = true from w)
        simp [plusM] at hout ⊢
        refine ⟨a - v.t, by omega, by omega, by omega⟩
    obtain ⟨k, hk, ek⟩ := hd
    have hfin : finB v s (if s = 0 then (v.t + v.l, v.t) else (v.t, v.t + v.l)) = true := by
      have o1 := hvo.1
      rcases hs with rfl | rfl
      · unfold finB
        simp [hc, lwonP, lwon, ownP]; omega
      · unfold finB
        simp [hc, lwonP, lwon, ownP]; omega
    obtain ⟨p, hp', hcp, hr⟩ := cover hv hs (q := if s = 0 then (v.t + v.l, v.t) else (v.t, v.t + v.l)) (by
      have := hvo.1; have := hvo.2.2.1
      rcases hs with rfl | rfl
      · rw [if_pos rfl]; simp only; omega
      · rw [if_neg (by decide)]; simp only; omega) (fun _ => by
      have := hvo.1; have := hvo.2.2.1
      rcases hs with rfl | rfl
      · rw [if_pos rfl]; simp only; omega
      · rw [if_neg (by decide)]; simp only; omega) hfin
    refine use p hp' hr ?_
    obtain ⟨_, _, _, _, sp, _⟩ := paths_ok hv hp'
    have a := valU_cnt (u := u) us hu
    have b := valU_cnt (u := u) p sp
    rw [ek] at a
    rw [hcp] at b
    have m1 : k * (u.1.1 + u.2.1) ≤ 0 := by
      have := Int.mul_le_mul_of_nonneg_left ho (show 0 ≤ k by omega)
      simpa using this
    have m2 : 0 ≤ k * (u.1.2 + u.2.2) := Int.mul_nonneg (by omega) (by omega)
    have key : valU u us = valU u p + k * (u.1.1 + u.2.1) ∧ ptsU u us = ptsU u p + k * (u.1.2 + u.2.2) := by
      rcases hs with rfl | rfl
      · rw [if_pos rfl] at a b
        rw [a.1, a.2, b.1, b.2]
        simp only [Int.add_mul, Int.mul_add]; omega
      · rw [if_neg (by decide)] at a b
        rw [a.1, a.2, b.1, b.2]
        simp only [Int.add_mul, Int.mul_add]; omega
    rw [key.1, key.2]
    unfold LEx; simp only; omega
def nxtU (b c : BR) : Un := ((-b.1, b.2.1), (-c.1, c.2.1))
def pathOf (b c : BR) (s : Int) : List Int := if s = 0 then b.2.2 else c.2.2
def UpP (P : Int → List Int → Prop) (v : Lv) (s : Int) (R : List Int) : Prop := ∃ bs : List (List Int × Int), R = (bs.map (·.1)).flatten ∧ (∀ b ∈ bs, (b.2 = 0 ∨ b.2 = 1) ∧ P b.2 b.1) ∧ Mt [v] s (bs.map (·.2))
theorem Good.step {P : Int → List Int → Prop} {u : Un} {r : Int → List Int} {v : Lv} {b c : BR} (g : Good P u r) (hv : v ∈ lvAll) (ho : v.c = none → 1 < v.l → u.1.1 + u.2.1 ≤ 0) (hb : BestOk v u 0 b) (hc : BestOk v u 1 c) :
    Good (UpP P v) (nxtU b c) (fun s => ((pathOf b c s).map r).flatten) := by
  have both : ∀ s, s = 0 ∨ s = 1 → ∃ d, BestOk v u s d ∧ uOf (nxtU b c) s = (-d.1, d.2.1) ∧ pathOf b c s = d.2.2 := fun s hs => by
    rcases hs with rfl | rfl
    · exact ⟨b, hb, by simp [uOf, nxtU], by simp [pathOf]⟩
    · exact ⟨c, hc, by simp [uOf, nxtU], by simp [pathOf]⟩
  have posn : ∀ s d, s = 0 ∨ s = 1 → BestOk v u s d → 1 ≤ d.2.1 := fun s d hs hd => by
    obtain ⟨s', _, _, m, sp, _⟩ := paths_ok hv hd.mem
    rw [hd.pts]
    have := valU_cnt (u := u) d.2.2 sp
    rw [this.2]
    have hl := cnt_len sp
    have h1 := List.length_pos_iff.mpr m.ne
    have n1 : 0 ≤ (cntP d.2.2).1 := by unfold cntP; simp
    have n2 : 0 ≤ (cntP d.2.2).2 := by unfold cntP; simp
    have a1 : (cntP d.2.2).1 * 1 ≤ (cntP d.2.2).1 * u.1.2 := Int.mul_le_mul_of_nonneg_left g.pos.1 n1
    have a2 : (cntP d.2.2).2 * 1 ≤ (cntP d.2.2).2 * u.2.2 := Int.mul_le_mul_of_nonneg_left g.pos.2 n2
    omega
  refine ⟨fun s R hs hR => ?_, fun s hs => ?_, ⟨posn 0 b (.inl rfl) hb, posn 1 c (.inr rfl) hc⟩⟩
  · obtain ⟨bs, rfl, h1, h2⟩ := hR
    obtain ⟨d, hd, e1, _⟩ := both s hs
    rw [e1]
    have hsd : Sides (bs.map (·.2)) := fun x hx => by
      obtain ⟨y, hy, rfl⟩ := List.mem_map.mp hx
      exact (h1 y hy).1
    exact (sum_blocks g bs h1).trans (level_bound hv hs hsd h2 g.pos ho hd)
  · obtain ⟨d, hd, e1, e2⟩ := both s hs
    obtain ⟨s', hs', hw, m, sp, _⟩ := paths_ok hv hd.mem
    have : s' = s := by rw [hd.win] at hw; cases hw; rfl
    subst this
    obtain ⟨a1, a2⟩ := sum_path g d.2.2 sp
    rw [e1]
    simp only [e2]
    refine ⟨⟨d.2.2.map fun x => (r x, x), by rw [List.map_map]; rfl, fun y hy => ?_, by rw [List.map_map]; simpa [Function.comp_def] using m⟩, by rw [a1, hd.val]; omega, by rw [a2, hd.pts]⟩
    obtain ⟨x, hx, rfl⟩ := List.mem_map.mp hy
    exact ⟨sp x hx, (g.at' x (sp x hx)).1⟩
def u0 : Un := ((-1, 1), (1, 1))
theorem good0 : Good (fun s R => R = [s]) u0 (fun s => [s]) := by
  refine ⟨fun s R hs h => ?_, fun s hs => ?_, by simp [u0]⟩
  · subst h
    rcases hs with rfl | rfl <;> simp [LEx, val0, uOf, u0]
  · rcases hs with rfl | rfl <;> simp [val0, uOf, u0]
theorem up0 {v : Lv} {s : Int} {R : List Int} : UpP (fun s R => R = [s]) v s R ↔ Mt [v] s R ∧ Sides R := by
  constructor
  · rintro ⟨bs, rfl, h1, h2⟩
    have e : (bs.map (·.1)).flatten = bs.map (·.2) := by
      clear h2
      induction bs with
      | nil => rfl
      | cons b bs ih =>
        rw [List.map_cons, List.map_cons, List.flatten_cons, ih fun b hb => h1 b (by simp [hb]), (h1 b (by simp)).2]; rfl
    rw [e]
    exact ⟨h2, fun x hx => by obtain ⟨y, hy, rfl⟩ := List.mem_map.mp hx; exact (h1 y hy).1⟩
  · rintro ⟨h, hs⟩
    refine ⟨R.map fun x => ([x], x), ?_, fun b hb => ?_, by rw [List.map_map]; simpa [Function.comp_def] using h⟩
    · rw [List.map_map]
      have : ∀ l : List Int, (l.map ((fun b : List Int × Int => b.1) ∘ fun x => ([x], x))).flatten = l := by
        intro l
        induction l with
        | nil => rfl
        | cons a l ih => rw [List.map_cons, List.flatten_cons, ih]; rfl
      exact (this R).symm
    · obtain ⟨x, hx, rfl⟩ := List.mem_map.mp hb
      exact ⟨hs x hx, rfl⟩
theorem upF {F : List Lv} {v : Lv} {s : Int} {R : List Int} (hF : F ≠ []) : UpP (fun s R => Mt F s R ∧ Sides R) v s R ↔ Mt (F ++ [v]) s R ∧ Sides R := by
  constructor
  · rintro ⟨bs, rfl, h1, h2⟩
    refine ⟨Mt.join hF (by simp) (fun b hb => (h1 b hb).2.1) h2, fun x hx => ?_⟩
    obtain ⟨l, hl, hx⟩ := List.mem_flatten.mp hx
    obtain ⟨b, hb, rfl⟩ := List.mem_map.mp hl
    exact (h1 b hb).2.2 x hx
  · rintro ⟨h, hs⟩
    obtain ⟨bs, rfl, h1, h2⟩ := Mt.cut hF (by simp) h
    have sb := sides_cut hs
    exact ⟨bs, rfl, fun b hb => ⟨(h1 b hb).sides (sb b hb), h1 b hb, sb b hb⟩, h2⟩
theorem Good.congr {P P' : Int → List Int → Prop} {u : Un} {r : Int → List Int} (g : Good P u r) (h : ∀ s R, P s R ↔ P' s R) : Good P' u r :=
  ⟨fun s R hs hR => g.ub s R hs ((h s R).mpr hR), fun s hs => ⟨(h _ _).mp (g.at' s hs).1, (g.at' s hs).2⟩, g.pos⟩

end Sf
end

section
set_option Elab.async false
set_option maxRecDepth 100000
set_option linter.all false
set_option maxHeartbeats 4000000
namespace Sf
open PySem L2
/-! the program's surpluses, surplus_row -/
abbrev FB := BR × BR
def brR (b : BR) : D := .tup [.int (-b.1), .int b.2.1, rowD b.2.2]
def foD (x : FB) : D := .tup [brR x.1, brR x.2]
def opn (v : Lv) (u : Un) : Bool := v.c.isNone && (decide (1 < v.l) && decide (0 < u.1.1 + u.2.1))
def surpM : List Lv → Un → Option (List FB)
  | [], _ => some []
  | v :: vs, u => if opn v u = true then none else match bestQ v u 0, bestQ v u 1 with
    | some b, some c => (surpM vs (nxtU b c)).map ((b, c) :: ·)
    | _, _ => none
def suB : FS := (sSeq (sIf (Sf.tAnd (tVal (fOp2 oIs (fOp2 oIx (fVar 3) (fCon (.int 2))) (fCon .non))) (Sf.tAnd (tVal (fOp2 oGt (fOp2 oIx (fVar 3) (fCon (.int 1))) (fCon (.int 1)))) (tVal (fOp2 oGt (fOp2 (oAdd false) (fOp2 oIx (fOp2 oIx (fVar 1) (fCon (.int 0))) (fCon (.int 0))) (fOp2 oIx (fOp2 oIx (fVar 1) (fCon (.int 1))) (fCon (.int 0)))) (fCon (.int 0)))))) (sRet (fCon .non)) (sSkip))
    (sSeq (sPar2 4 5 (fCons (fCall (pureF f_best_row) (fCons (fVar 3) (fCons (fCon (.bl true)) (fCons (fVar 1) (fNil))))) (fCons (fCall (pureF f_best_row) (fCons (fVar 3) (fCons (fCon (.bl false)) (fCons (fVar 1) (fNil))))) (fNil))))
    (sSeq (sExpr (fMethL mAppend (fVar 2) (fCons (fTup (fCons (fVar 4) (fCons (fVar 5) (fNil)))) (fNil))))
    (sAsg 1 (fTup (fCons (fCut false (fVar 4) (fNoPart) (fPart (fCon (.int 2)))) (fCons (fCut false (fVar 5) (fNoPart) (fPart (fCon (.int 2)))) (fNil))))))))
theorem t_suB {x0 : D} : ∀ (vs : List Lv) (u : Un) (acc : List FB) (a b c : D), (∀ v ∈ vs, v ∈ lvAll) → acc.length + vs.length ≤ 1000 →
    match surpM vs u with
    | some l => ∃ u' a' b' c', forL (tgName 3) suB (vs.map Lv.D) [x0, unD u, .loc 0, a, b, c] [.lst (acc.map foD)] = .nx [x0, u', .loc 0, a', b', c'] [.lst ((acc ++ l).map foD)]
    | none => ∃ S', forL (tgName 3) suB (vs.map Lv.D) [x0, unD u, .loc 0, a, b, c] [.lst (acc.map foD)] = .rt .non S'
  | [], u, acc, a, b, c, _, _ => ⟨unD u, a, b, c, by simp [forL]⟩
  | v :: vs, u, acc, a, b, c, h, hl => by
    have hv := h v (by simp)
    have fo : forL (tgName 3) suB ((v :: vs).map Lv.D) [x0, unD u, .loc 0, a, b, c] [.lst (acc.map foD)] = forK (tgName 3) suB (vs.map Lv.D) (suB [x0, unD u, .loc 0, v.D, b, c] [.lst (acc.map foD)]) := by
      rw [List.map_cons, forL_cons (env1 := [x0, unD u, .loc 0, v.D, b, c]) rfl]
    obtain ⟨b1, q1, _, e1⟩ := t_best_row (u := u) (w := true) (s := 0) (S := []) hv rfl
    obtain ⟨b2, q2, _, e2⟩ := t_best_row (u := u) (w := false) (s := 1) (S := []) hv rfl
    have ev : v.D = .tup [.int v.t, .int v.l, oI v.c] := rfl
    have eu : unD u = .tup [.tup [.int u.1.1, .int u.1.2], .tup [.int u.2.1, .int u.2.2]] := rfl
    rw [ev, eu] at e1 e2
    have c1 : ∀ S, oCut false (.tup [.int (-b1.1), .int b1.2.1, rowD b1.2.2]) none (some 2) S = some (.tup [.int (-b1.1), .int b1.2.1], S) := fun S => cut2
    have c2 : ∀ S, oCut false (.tup [.int (-b2.1), .int b2.2.1, rowD b2.2.2]) none (some 2) S = some (.tup [.int (-b2.1), .int b2.2.1], S) := fun S => cut2
    simp only [List.length_cons] at hl
    have hf : fitS acc.length = true := fitS_of (by omega)
    have il : isLs (.loc 0) [.lst (acc.map foD)] = true := isLs_of rfl
    unfold surpM
    by_cases ho : opn v u = true
    · rw [if_pos ho]
      unfold opn at ho
      rw [Bool.and_eq_true, Bool.and_eq_true] at ho
      obtain ⟨h1, h2, h3⟩ := ho
      have h2 := of_decide_eq_true h2
      have h3 := of_decide_eq_true h3
      have hn : v.c = none := by simpa using h1
      have : suB [x0, unD u, .loc 0, v.D, b, c] [.lst (acc.map foD)] = .rt .non [.lst (acc.map foD)] := by
        unfold suB
        rw [ev, eu, hn]
        simp [h2, h3]
      refine ⟨[.lst (acc.map foD)], ?_⟩
      rw [fo, this]; rfl
    · rw [if_neg ho]
      rw [q1, q2]
      simp only
      have : suB [x0, unD u, .loc 0, v.D, b, c] [.lst (acc.map foD)] = .nx [x0, unD (nxtU b1 b2), .loc 0, v.D, brR b1, brR b2] [.lst ((acc ++ [(b1, b2)]).map foD)] := by
        have hq : opn v u = false := by simpa using ho
        unfold opn at hq
        unfold suB
        rw [ev, eu]
        cases hc : v.c with
        | some k => rw [hc] at e1 e2; simp only [oI_some] at e1 e2; simp [e1, e2, c1, c2, il, hf, nxtU, unD, brR, foD]
        | none =>
          rw [hc] at hq e1 e2
          simp only [oI_none] at e1 e2
          simp only [Option.isNone_none, Bool.true_and] at hq
          by_cases h2 : 1 < v.l
          · rw [decide_eq_true h2] at hq
            simp only [Bool.true_and] at hq
            have h3 := of_decide_eq_false hq
            simp [e1, e2, c1, c2, il, hf, nxtU, unD, brR, foD, h2, h3]
          · simp [e1, e2, c1, c2, il, hf, nxtU, unD, brR, foD, h2]
      have ih := t_suB (x0 := x0) vs (nxtU b1 b2) (acc ++ [(b1, b2)]) v.D (brR b1) (brR b2) (fun v hv => h v (by simp [hv])) (by rw [List.length_append, List.length_singleton]; omega)
      cases hs : surpM vs (nxtU b1 b2) with
      | none =>
        rw [hs] at ih
        obtain ⟨S', ih⟩ := ih
        exact ⟨S', by rw [fo, this]; exact ih⟩
      | some l =>
        rw [hs] at ih
        obtain ⟨u', a', b', c', ih⟩ := ih
        exact ⟨u', a', b', c', by rw [fo, this]; show forL _ _ _ _ _ = _; rw [ih]; simp⟩
theorem plL_fo (l : List FB) : plL 4 (l.map foD) = true := plL_map foD (fun x => by
  have h : ∀ p : List Int, plL 1 (p.map D.int) = true := fun p => plL_ints _
  simp [foD, brR, pl, plL_cons, plL_nil, pl_int, h]) l
theorem frz_lst0 {S : Sto} {l : List D} {n : Nat} (h : S[0]? = some (.lst l)) (hl : plL n l = true) (hn : n < 7) : fnEnd false 0 (.rt (.loc 0) S) = .ok (.lst l) [] := by
  have hS : 0 < S.length := (List.getElem?_eq_some_iff.mp h).1
  show (bif Nat.beq S.length 0 then Out.ok (D.loc 0) S else match frzD 9 S 0 (.loc 0) with
    | some d' => (bif (S.take 0).all (lowO 0) then Out.ok d' (S.take 0) else .bad)
    | none => .bad) = _
  have hb : Nat.beq S.length 0 = false := by cases S with
    | nil => simp at hS
    | cons a S => rfl
  have e0 : frzD 9 S 0 (.loc 0) = some (.lst l) := by
    show (bif Nat.blt 0 0 then some (D.loc 0) else match S[0]? with
      | some (Ob.lst l) => (mapO (frzD 8 S 0) l).map D.lst
      | _ => none) = _
    rw [h]
    simp only
    rw [frz_plL l n 8 hl (by omega)]; rfl
  rw [hb, e0]; rfl
theorem low_fo (l : List FB) : lowL 0 (l.map foD) = true := lowL_map foD (fun x => by
  have h : ∀ p : List Int, lowL 0 (p.map D.int) = true := fun p => low_ints p
  simp [foD, brR, lowD, lowL, h]) l
theorem t_surpluses {vs : List Lv} {S : Sto} (hv : vs.length ≤ 500) (h : ∀ v ∈ vs, v ∈ lvAll) : pureF f_surpluses [formD vs] S = .ok (match surpM vs u0 with
    | some l => .lst (l.map foD)
    | none => .non) S := by
  refine pure_eq low_form ?_
  have key := t_suB (x0 := formD vs) vs u0 [] .und .und .und h (by simp; omega)
  have eu : unD u0 = .tup [.tup [.int (-1), .int 1], .tup [.int 1, .int 1]] := rfl
  rw [eu] at key
  unfold f_surpluses fn b_surpluses
  change fnEnd false 0 (sSeq _ (sSeq (sFor _ _ suB) _) _ _) = _
  cases hs : surpM vs u0 with
  | none =>
    rw [hs] at key
    obtain ⟨S', key⟩ := key
    have key : forL (tgName 3) suB (vs.map Lv.D) [formD vs, .tup [.tup [.int (-1), .int 1], .tup [.int 1, .int 1]], .loc 0, .und, .und, .und] [.lst []] = _ := key
    simp [key, end_pl (n := 0) (d := .non) (S := S') rfl (by omega)]
  | some l =>
    rw [hs] at key
    obtain ⟨u', a', b', c', key⟩ := key
    have key : forL (tgName 3) suB (vs.map Lv.D) [formD vs, .tup [.tup [.int (-1), .int 1], .tup [.int 1, .int 1]], .loc 0, .und, .und, .und] [.lst []] = _ := key
    have fz := frz_lst0 (l := l.map foD) (S := [.lst ((([] : List FB) ++ l).map foD)]) (by simp) (plL_fo l) (by omega)
    simp only [List.nil_append] at key fz
    simp [key, fz]
theorem surpM_len : ∀ {vs : List Lv} {u : Un} {l : List FB}, surpM vs u = some l → l.length = vs.length
  | [], u, l, h => by simp [surpM] at h; subst h; rfl
  | v :: vs, u, l, h => by
    unfold surpM at h
    split at h
    · cases h
    · split at h
      · rename_i b c _ _
        cases hs : surpM vs (nxtU b c) with
        | none => rw [hs] at h; cases h
        | some m => rw [hs] at h; cases h; simp [surpM_len hs]
      · cases h
/-- the points of a unit -/
def ptsF (l : List FB) : Nat → Int → List Int
  | 0, s => [s]
  | n + 1, s => match l[n]? with
    | some x => ((pathOf x.1 x.2 s).map (ptsF l n)).flatten
    | none => []
structure FoOk (x : FB) : Prop where
  a : Sides x.1.2.2 ∧ x.1.2.2.length ≤ 20
  b : Sides x.2.2.2 ∧ x.2.2.2.length ≤ 20
theorem FoOk.path {x : FB} (h : FoOk x) (s : Int) : Sides (pathOf x.1 x.2 s) ∧ (pathOf x.1 x.2 s).length ≤ 20 := by
  unfold pathOf; split
  · exact h.a
  · exact h.b
theorem ptsF_len {l : List FB} (h : ∀ x ∈ l, FoOk x) : ∀ (n : Nat) (s : Int), (ptsF l n s).length ≤ 20 ^ n
  | 0, s => by simp [ptsF]
  | n + 1, s => by
    unfold ptsF
    cases hx : l[n]? with
    | none => simp
    | some x =>
      simp only
      have hp := (h x (List.mem_of_getElem? hx)).path s
      have ih := ptsF_len h n
      generalize pathOf x.1 x.2 s = p at hp
      have : ∀ p : List Int, (p.map (ptsF l n)).flatten.length ≤ p.length * 20 ^ n := by
        intro p
        induction p with
        | nil => simp
        | cons a p ihp =>
          rw [List.map_cons, List.flatten_cons, List.length_append, List.length_cons, Nat.add_mul]
          have := ih a
          omega
      have h1 := this p
      have h2 : p.length * 20 ^ n ≤ 20 * 20 ^ n := Nat.mul_le_mul_right _ hp.2
      rw [Nat.pow_succ, Nat.mul_comm (20 ^ n)]; omega
def poQ (r_points_of : Fn) : FS := (sExpr (fMethL mExtend (fVar 3) (fCons (fCall (pureF r_points_of) (fCons (fVar 0) (fCons (fOp2 (oSub) (fVar 1) (fCon (.int 1))) (fCons (fVar 4) (fNil))))) (fNil))))
theorem x_extend {n : Nat} {S : Sto} {l m : List D} (h : S[n]? = some (.lst l)) (hf : fit (l.length + m.length) = true) : mExtend (.loc n) [.lst m] S = some (.non, S.set n (.lst (l ++ m))) := by
  show (match S[n]?, lsW (.lst m) S with
    | some (.lst l), some m => bif fit (l.length + m.length) then some (D.non, S.set n (.lst (l ++ m))) else none
    | _, _ => none) = _
  rw [h]; simp only [lsW]; rw [hf]; rfl
theorem t_poL {F : Fn} {x0 x2 : D} {i : Int} {f : Int → List Int} {c : Nat} (h0 : x0 ≠ .und) (hF : ∀ u S, u = 0 ∨ u = 1 → pureF F [x0, .int (i - 1), .int u] S = .ok (rowD (f u)) S) (hf : ∀ u, (f u).length ≤ c) :
    ∀ (us acc : List Int) (z : D), (∀ u ∈ us, u = 0 ∨ u = 1) → acc.length + us.length * c ≤ 1000000 →
    ∃ z', forL (tgName 4) (poQ F) (us.map D.int) [x0, .int i, x2, .loc 0, z] [.lst (acc.map D.int)] = .nx [x0, .int i, x2, .loc 0, z'] [.lst ((acc ++ (us.map f).flatten).map D.int)]
  | [], acc, z, _, _ => ⟨z, by simp [forL]⟩
  | u :: us, acc, z, h, hc => by
    have hu := h u (by simp)
    have hl := hf u
    rw [List.length_cons, Nat.add_mul] at hc
    have e : poQ F [x0, .int i, x2, .loc 0, .int u] [.lst (acc.map D.int)] = .nx [x0, .int i, x2, .loc 0, .int u] [.lst ((acc ++ f u).map D.int)] := by
      have eF := fun S => hF _ S hu
      have ex := x_extend (n := 0) (S := [.lst (acc.map D.int)]) (l := acc.map D.int) (m := (f u).map D.int) rfl (fit_of (by simp; omega))
      have el : isLs (.loc 0) [.lst (acc.map D.int)] = true := isLs_of rfl
      have e0 : (match x0 with
        | .und => Out.bad
        | d => Out.ok d [.lst (acc.map D.int)]) = Out.ok x0 [.lst (acc.map D.int)] := by
        cases x0 <;> first | rfl | exact absurd rfl h0
      unfold poQ
      simp only [x_expr, x_meth, x_var, List.getElem?_cons_succ, List.getElem?_cons_zero, x_bind, el, cond_true, x_cons, x_call, e0, x_op2, x_con, x_sub, x_outO, x_nil, eF, ex, x_bindS]
      simp
    obtain ⟨z', ih⟩ := t_poL h0 hF hf us (acc ++ f u) (.int u) (fun u hu => h u (by simp [hu])) (by rw [List.length_append]; omega)
    refine ⟨z', ?_⟩
    rw [List.map_cons, forL_cons (env1 := [x0, .int i, x2, .loc 0, .int u]) rfl, e]
    show forL _ _ _ _ _ = _
    rw [ih]
    simp
theorem t_points_of {l : List FB} (h : ∀ x ∈ l, FoOk x) (h3 : l.length ≤ 3) : ∀ (n k : Nat) (s : Int) (S : Sto), n < k → n ≤ l.length → s = 0 ∨ s = 1 →
    pureF (f_points_of k) [.lst (l.map foD), .int ((n : Int) - 1), .int s] S = .ok (rowD (ptsF l n s)) S
  | 0, k + 1, s, S, _, _, _ => by
    refine pure_eq (by simp [lowL, lowD, low_fo]) ?_
    show fnEnd false 0 (b_points_of (f_points_of k) [.lst (l.map foD), .int (-1), .int s, .und, .und] []) = _
    unfold b_points_of
    simp [ptsF, end_rt]
  | n + 1, k + 1, s, S, hk, hn, hs => by
    refine pure_eq (by simp [lowL, lowD, low_fo]) ?_
    obtain ⟨x, hx⟩ : ∃ x, l[n]? = some x := ⟨_, List.getElem?_eq_getElem (by omega)⟩
    have ok := h x (List.mem_of_getElem? hx)
    obtain ⟨p1, p2⟩ := ok.path s
    have ih := fun u S (hu : u = 0 ∨ u = 1) => t_points_of h h3 n k u S (by omega) (by omega) hu
    have hc : 20 ^ n ≤ 400 := by
      have : n ≤ 2 := by omega
      match n, this with
      | 0, _ => decide
      | 1, _ => decide
      | 2, _ => decide
    have hb : (pathOf x.1 x.2 s).length * 20 ^ n ≤ 20 * 400 := Nat.mul_le_mul p2 hc
    obtain ⟨z', key⟩ := t_poL (x0 := .lst (l.map foD)) (x2 := .int s) (i := (n : Int)) (F := f_points_of k) (f := ptsF l n) (c := 20 ^ n) (by intro h; cases h) ih (ptsF_len h n) (pathOf x.1 x.2 s) [] .und p1 (by simp; omega)
    have key : forL (tgName 4) (poQ (f_points_of k)) ((pathOf x.1 x.2 s).map D.int) [.lst (l.map foD), .int n, .int s, .loc 0, .und] [.lst []] = _ := key
    have ix : ixD (l.map foD) n = some (foD x) := by rw [ix_nn (by omega)]; simp [hx]
    have hneg : ¬ ((n : Int) < 0) := by omega
    have fz : fnEnd false 0 (.rt (.loc 0) [.lst ((([] : List Int) ++ ((pathOf x.1 x.2 s).map (ptsF l n)).flatten).map D.int)]) = .ok (rowD (ptsF l (n + 1) s)) [] := by
      have e := frz_lst0 (n := 0) (S := [.lst ((([] : List Int) ++ ((pathOf x.1 x.2 s).map (ptsF l n)).flatten).map D.int)]) rfl (plL_ints _) (by omega)
      rw [e]
      unfold ptsF; rw [hx]; simp
    show fnEnd false 0 (b_points_of (f_points_of k) [.lst (l.map foD), .int (((n + 1 : Nat) : Int) - 1), .int s, .und, .und] []) = _
    rw [show ((n + 1 : Nat) : Int) - 1 = (n : Int) by omega]
    unfold b_points_of
    change fnEnd false 0 (sSeq _ (sSeq _ (sSeq (sFor _ _ (poQ (f_points_of k))) _)) _ _) = _
    have hit : ∀ S, (iSq (fOp2 oIx (fOp2 oIx (fOp2 oIx (fVar 0) (fVar 1)) (fVar 2)) (fCon (.int 2)))) [.lst (l.map foD), .int n, .int s, .loc 0, .und] S = .ok ((pathOf x.1 x.2 s).map D.int) S := fun S => by
      unfold pathOf
      rcases hs with rfl | rfl <;> simp [ix, foD, brR]
    have hd : (sFor (iSq (fOp2 oIx (fOp2 oIx (fOp2 oIx (fVar 0) (fVar 1)) (fVar 2)) (fCon (.int 2)))) (tgName 4) (poQ (f_points_of k))) [.lst (l.map foD), .int n, .int s, .loc 0, .und] [.lst []] = .nx [.lst (l.map foD), .int n, .int s, .loc 0, z'] [.lst ((([] : List Int) ++ ((pathOf x.1 x.2 s).map (ptsF l n)).flatten).map D.int)] := by
      rw [x_for_, hit]; exact key
    simp [-x_for_, hneg, hd]
    simpa using fz
theorem t_points_ofN {l : List FB} (h : ∀ x ∈ l, FoOk x) (h3 : l.length ≤ 3) {n : Nat} {s : Int} {S : Sto} (hk : n < 3) (hn : n + 1 ≤ l.length) (hs : s = 0 ∨ s = 1) :
    pureN f_points_ofN [.lst (l.map foD), .int n, .int s] S = .ok (.loc S.length) (S ++ [.lst ((ptsF l (n + 1) s).map D.int)]) := by
  refine pureN_lst (by simp [lowL, lowD, low_fo]) ?_
  obtain ⟨x, hx⟩ : ∃ x, l[n]? = some x := ⟨_, List.getElem?_eq_getElem (by omega)⟩
  have ok := h x (List.mem_of_getElem? hx)
  obtain ⟨p1, p2⟩ := ok.path s
  have ih := fun u S (hu : u = 0 ∨ u = 1) => t_points_of h h3 n 3 u S (by omega) (by omega) hu
  have hc : 20 ^ n ≤ 400 := by
    have : n ≤ 2 := by omega
    match n, this with
    | 0, _ => decide
    | 1, _ => decide
    | 2, _ => decide
  have hb : (pathOf x.1 x.2 s).length * 20 ^ n ≤ 20 * 400 := Nat.mul_le_mul p2 hc
  obtain ⟨z', key⟩ := t_poL (x0 := .lst (l.map foD)) (x2 := .int s) (i := (n : Int)) (F := f_points_of 3) (f := ptsF l n) (c := 20 ^ n) (by intro h; cases h) ih (ptsF_len h n) (pathOf x.1 x.2 s) [] .und p1 (by simp; omega)
  have key : forL (tgName 4) (poQ (f_points_of 3)) ((pathOf x.1 x.2 s).map D.int) [.lst (l.map foD), .int n, .int s, .loc 0, .und] [.lst []] = _ := key
  have ix : ixD (l.map foD) n = some (foD x) := by rw [ix_nn (by omega)]; simp [hx]
  have hneg : ¬ ((n : Int) < 0) := by omega
  have ew : (([] : List Int) ++ ((pathOf x.1 x.2 s).map (ptsF l n)).flatten) = ptsF l (n + 1) s := by
    rw [List.nil_append]
    conv => rhs; unfold ptsF
    rw [hx]
  rw [ew] at key
  show endN' (b_points_of (f_points_of 3) [.lst (l.map foD), .int n, .int s, .und, .und] []) = _
  unfold b_points_of
  change endN' (sSeq _ (sSeq _ (sSeq (sFor _ _ (poQ (f_points_of 3))) _)) _ _) = _
  have hit : ∀ S, (iSq (fOp2 oIx (fOp2 oIx (fOp2 oIx (fVar 0) (fVar 1)) (fVar 2)) (fCon (.int 2)))) [.lst (l.map foD), .int n, .int s, .loc 0, .und] S = .ok ((pathOf x.1 x.2 s).map D.int) S := fun S => by
    unfold pathOf
    rcases hs with rfl | rfl <;> simp [ix, foD, brR]
  have hd : (sFor (iSq (fOp2 oIx (fOp2 oIx (fOp2 oIx (fVar 0) (fVar 1)) (fVar 2)) (fCon (.int 2)))) (tgName 4) (poQ (f_points_of 3))) [.lst (l.map foD), .int n, .int s, .loc 0, .und] [.lst []] = .nx [.lst (l.map foD), .int n, .int s, .loc 0, z'] [.lst ((ptsF l (n + 1) s).map D.int)] := by
    rw [x_for_, hit]; exact key
  rw [sSeq_nx (e' := [.lst (l.map foD), .int n, .int s, .und, .und]) (S' := []) (by simp [hneg])]
  rw [sSeq_nx (e' := [.lst (l.map foD), .int n, .int s, .loc 0, .und]) (S' := [.lst []]) (by rfl), sSeq_nx hd]
  exact endN_lst (w := ptsF l (n + 1) s) (S' := [])
theorem t_surplus_rowN {vs : List Lv} {S : Sto} (hf : Form vs) (h : ∀ v ∈ vs, v ∈ lvAll) (hk : ∀ l, surpM vs u0 = some l → ∀ x ∈ l, FoOk x) : pureN f_surplus_row [formD vs] S = outN ((surpM vs u0).map fun l => ptsF l vs.length 0) S := by
  have e1 := fun S => t_need_form (S := S) hf
  have e2 := fun S => t_surpluses (S := S) (vs := vs) (by have := hf.2.1; omega) h
  have sq1 : ∀ f : FS, sSeq (sExpr (fCall (pureF f_need_form) (fCons (fVar 0) (fNil)))) f [formD vs, .und] [] = f [formD vs, .und] [] := fun f => sSeq_nx (by rw [x_expr, callF (consF rfl x_nil) (e1 _)]; rfl)
  cases hs : surpM vs u0 with
  | none =>
    rw [hs] at e2; simp only at e2
    refine pureN_val low_form ?_
    unfold f_surplus_row fnN b_surplus_row
    show endN' (sSeq _ (sSeq _ _) [formD vs, .und] []) = _
    rw [sq1, sSeq_nx (e' := [formD vs, .non]) (S' := []) (by exact asgF (callF (consF rfl x_nil) (e2 _)))]
    rw [x_ret, ifT (S1 := []) (by exact valF rfl)]; rfl
  | some l =>
    rw [hs] at e2; simp only at e2
    have hl := surpM_len hs
    have h1 := hf.1
    have h2 := hf.2.1
    refine pureN_lst low_form ?_
    have e3 := t_points_ofN (S := []) (n := vs.length - 1) (s := 0) (hk l hs) (by omega) (by omega) (by omega) (.inl rfl)
    rw [show vs.length - 1 + 1 = vs.length by omega, show ((vs.length - 1 : Nat) : Int) = (vs.length : Int) - 1 by omega] at e3
    unfold f_surplus_row fnN b_surplus_row
    show endN' (sSeq _ (sSeq _ _) [formD vs, .und] []) = _
    rw [sq1, sSeq_nx (e' := [formD vs, .lst (l.map foD)]) (S' := []) (by exact asgF (callF (consF rfl x_nil) (e2 _)))]
    have en : fOp2 (oSub) (fOpN oLen (fCons (fVar 0) (fNil))) (fCon (.int 1)) [formD vs, .lst (l.map foD)] [] = .ok (.int ((vs.length : Int) - 1)) [] := by
      refine op2F (opNF0 (consF rfl x_nil) x_lenT) rfl ?_
      rw [List.length_map]; rfl
    rw [x_ret, ifF (S1 := []) (by exact valF rfl), callF (consF rfl (consF en (consF rfl x_nil))) e3]
    exact endN_lst (w := ptsF l vs.length 0) (S' := [])
/-! plain: the greatest surplus of a form -/
theorem surpM_cons {v : Lv} {vs : List Lv} {u : Un} {l : List FB} (h : surpM (v :: vs) u = some l) : ∃ b c l1, opn v u = false ∧ bestQ v u 0 = some b ∧ bestQ v u 1 = some c ∧ surpM vs (nxtU b c) = some l1 ∧ l = (b, c) :: l1 := by
  unfold surpM at h
  by_cases ho : opn v u = true
  · rw [if_pos ho] at h; cases h
  · rw [if_neg ho] at h
    cases hb : bestQ v u 0 with
    | none => rw [hb] at h; cases h
    | some b =>
      cases hc : bestQ v u 1 with
      | none => rw [hb, hc] at h; cases h
      | some c =>
        rw [hb, hc] at h
        simp only at h
        cases hs : surpM vs (nxtU b c) with
        | none => rw [hs] at h; cases h
        | some l1 => rw [hs] at h; cases h; exact ⟨b, c, l1, by simpa using ho, rfl, rfl, hs, rfl⟩
theorem opn_le {v : Lv} {u : Un} (h : opn v u = false) (hc : v.c = none) (hl : 1 < v.l) : u.1.1 + u.2.1 ≤ 0 := by
  unfold opn at h
  rw [hc] at h
  simp [hl] at h
  exact h
theorem best_ok {v : Lv} {u : Un} {s : Int} {b : BR} (hv : v ∈ lvAll) (hs : s = 0 ∨ s = 1) (h : bestQ v u s = some b) : BestOk v u s b := by
  obtain ⟨b', h1, h2⟩ := bestQ_ok (u := u) hv hs
  rw [h] at h1; cases h1; exact h2
theorem foOk {v : Lv} {u : Un} {b c : BR} (hv : v ∈ lvAll) (hb : BestOk v u 0 b) (hc : BestOk v u 1 c) : FoOk (b, c) := by
  obtain ⟨_, _, _, _, a1, a2⟩ := paths_ok hv hb.mem
  obtain ⟨_, _, _, _, b1, b2⟩ := paths_ok hv hc.mem
  exact ⟨⟨a1, a2⟩, ⟨b1, b2⟩⟩
theorem surp_all : ∀ {vs : List Lv} {u : Un} {l : List FB}, (∀ v ∈ vs, v ∈ lvAll) → surpM vs u = some l → ∀ x ∈ l, FoOk x
  | [], u, l, _, h => by simp [surpM] at h; subst h; simp
  | v :: vs, u, l, hv, h => by
    obtain ⟨b, c, l1, _, h2, h3, h4, rfl⟩ := surpM_cons h
    have := surp_all (fun w hw => hv w (by simp [hw])) h4
    intro x hx
    rcases List.mem_cons.mp hx with rfl | hx
    · exact foOk (hv v (by simp)) (best_ok (hv v (by simp)) (.inl rfl) h2) (best_ok (hv v (by simp)) (.inr rfl) h3)
    · exact this x hx

end Sf
end

section
set_option Elab.async false
set_option maxRecDepth 100000
set_option linter.all false
set_option maxHeartbeats 4000000
namespace Sf
open PySem L2
/-! a random row, handed out as a new list -/
theorem compV_tw {α : Type} (P : α → Prop) (enc : α → D) (fe : FE) (env : En) (j : Nat) (R : Sto) (n : Nat) (l : List D) (hn : R[n]? = some (.lst l))
    (h : ∀ d ∈ l, ∀ p q : Int, 0 ≤ p → 0 ≤ q → ∃ a p' q', P a ∧ 0 ≤ p' ∧ 0 ≤ q' ∧ fe (env.set j d) (tw p q R) = .ok (enc a) (tw p' q' R)) :
    ∀ (k i : Nat) (p q : Int), i + k = l.length → 0 ≤ p → 0 ≤ q → ∃ (as : List α) (p' q' : Int), as.length = k ∧ (∀ a ∈ as, P a) ∧ 0 ≤ p' ∧ 0 ≤ q' ∧ compV (tgName j) fe env (n + 1) (k + 1) i (tw p q R) = .ok (as.map enc) (tw p' q' R)
  | 0, i, p, q, hk, hp, hq => by
    have hT : (tw p q R)[n + 1]? = some (.lst l) := hn
    refine ⟨[], p, q, rfl, by simp, hp, hq, ?_⟩
    unfold compV
    rw [hT]
    have e : l[i]? = none := by rw [List.getElem?_eq_none_iff]; omega
    simp only [e]; rfl
  | k + 1, i, p, q, hk, hp, hq => by
    have hT : (tw p q R)[n + 1]? = some (.lst l) := hn
    have hi : i < l.length := by omega
    obtain ⟨a, p1, q1, ha, hp1, hq1, e1⟩ := h l[i] (List.getElem_mem hi) p q hp hq
    obtain ⟨as, p2, q2, l2, has, hp2, hq2, e2⟩ := compV_tw P enc fe env j R n l hn h k (i + 1) p1 q1 (by omega) hp1 hq1
    refine ⟨a :: as, p2, q2, by simp [l2], by simpa using ⟨ha, has⟩, hp2, hq2, ?_⟩
    unfold compV
    rw [hT]
    have e : l[i]? = some l[i] := List.getElem?_eq_getElem hi
    have g : tgName j l[i] env = some (env.set j l[i]) := rfl
    simp only [e, g, e1, e2]
    rfl
theorem t_law_rowN {ns : List Int} {m p q : Int} (h1 : 1 ≤ m) (h2 : m ≤ 200) (hp : 0 ≤ p) (hq : 0 ≤ q) :
    ∃ rs p' q', Row rs ∧ (rs.length : Int) < m ∧ 0 ≤ p' ∧ 0 ≤ q' ∧ f__law_row [.scr (ns.map D.int), .loc 0, .int m] (tw p q []) = .ok (.loc 1) (tw p' q' [.lst (rs.map D.int)]) := by
  obtain ⟨k, p1, q1, k1, k2, hp, hq, e1⟩ := t_draw (ns := ns) (n := m) (R := []) h1 (by omega) hp hq
  obtain ⟨rs, p2, q2, l2, hrs, hp, hq, e2⟩ := comp_tw (fun r : Int => r = 0 ∨ r = 1) D.int (fCall f__law_draw (fCons (fVar 0) (fCons (fVar 1) (fCons (fCon (.int 2)) (fNil)))))
    [.scr (ns.map D.int), .loc 0, .int m, .und, .und, .und, .und] 5 [] (rngL 0 k.toNat) p1 q1 (fun d hd p q hp hq => by
      obtain ⟨r, p', q', r1, r2, hp, hq, e⟩ := t_draw (ns := ns) (n := 2) (R := []) (by omega) (by omega) hp hq
      exact ⟨r, p', q', by omega, hp, hq, by simp [e]⟩) hp hq
  rw [rngL_len] at l2
  have ks : smallI k = true := by unfold smallI; simp; omega
  have kf : fit k.toNat = true := fit_of (by omega)
  obtain ⟨b, p3, q3, b1, b2, hp, hq, e3⟩ := t_draw (ns := ns) (n := 3) (R := [.lst (rs.map D.int)]) (by omega) (by omega) hp hq
  have s1 : sAsg 3 (fComp true (iOf kRng1 (fCons (fCall f__law_draw (fCons (fVar 0) (fCons (fVar 1) (fCons (fVar 2) (fNil))))) (fNil))) (tgName 5) (tYesF) (fCall f__law_draw (fCons (fVar 0) (fCons (fVar 1) (fCons (fCon (.int 2)) (fNil))))) [5]) [.scr (ns.map D.int), .loc 0, .int m, .und, .und, .und, .und] (tw p q []) = .nx [.scr (ns.map D.int), .loc 0, .int m, .loc 1, .und, .und, .und] (tw p2 q2 [.lst (rs.map D.int)]) := by
    refine asgF ?_
    have it : iOf kRng1 (fCons (fCall f__law_draw (fCons (fVar 0) (fCons (fVar 1) (fCons (fVar 2) (fNil))))) (fNil)) [.scr (ns.map D.int), .loc 0, .int m, .und, .und, .und, .und] (tw p q []) = .ok (rngL 0 k.toNat) (tw p1 q1 []) := by simp [e1, kRng1, ks]
    rw [x_comp, it, x_bind, rngL_len, kf, cond_true]
    show (match compL (tgName 5) tYesF _ [.scr (ns.map D.int), .loc 0, .int m, .und, .und, .und, .und] (rngL 0 k.toNat) (tw p1 q1 []) with
      | .ok xs S2 => Out.ok (D.loc S2.length) (S2 ++ [Ob.lst xs])
      | _ => Out.bad) = _
    rw [e2]; rfl
  have fin : ∀ (us : List Int) (p' q' : Int), ((fnEnd true 1 (.rt (.loc 2) (tw p' q' [.lst (rs.map D.int), .lst (us.map D.int)])) : Out D) = .ok (.loc 1) (tw p' q' [.lst (us.map D.int)])) ∧ ((fnEnd true 1 (.rt (.loc 1) (tw p' q' [.lst (us.map D.int)])) : Out D) = .ok (.loc 1) (tw p' q' [.lst (us.map D.int)])) := fun us p' q' => by
    have low : lowO 1 (.lst (us.map D.int)) = true := low_intsN us
    constructor
    · show (bif (true && true) && lowO 1 (.lst (us.map D.int)) then Out.ok (D.loc 1) (tw p' q' [.lst (us.map D.int)]) else .bad) = _
      rw [low]; rfl
    · show (bif (true && true) && lowO 1 (.lst (us.map D.int)) then Out.ok (D.loc 1) (tw p' q' [.lst (us.map D.int)]) else .bad) = _
      rw [low]; rfl
  have t3 : tVal (fOp2 oEq (fCall f__law_draw (fCons (fVar 0) (fCons (fVar 1) (fCons (fCon (.int 3)) (fNil))))) (fCon (.int 0))) [.scr (ns.map D.int), .loc 0, .int m, .loc 1, .und, .und, .und] (tw p2 q2 [.lst (rs.map D.int)]) = .ok (decide (b = 0)) (tw p3 q3 [.lst (rs.map D.int)]) :=
    valF (op2F (callF (consF rfl (consF rfl (consF rfl x_nil))) e3) rfl (by simp))
  by_cases hb : b = 0
  · rw [decide_eq_true hb] at t3
    obtain ⟨s, p4, q4, s1', s2, hp, hq, e4⟩ := t_draw (ns := ns) (n := 2) (R := [.lst (rs.map D.int)]) (by omega) (by omega) hp hq
    obtain ⟨us, p5, q5, l5, hus, hp, hq, e5⟩ := compV_tw (fun r : Int => r = 0 ∨ r = 1) D.int (fIf (tVal (fOp2 oGt (fCall f__law_draw (fCons (fVar 0) (fCons (fVar 1) (fCons (fCon (.int 4)) (fNil))))) (fCon (.int 0)))) (fVar 4) (fVar 6))
      [.scr (ns.map D.int), .loc 0, .int m, .loc 1, .int s, .und, .und] 6 [.lst (rs.map D.int)] 0 (rs.map D.int) rfl (fun d hd p q hp hq => by
        obtain ⟨x, hx, rfl⟩ := List.mem_map.mp hd
        obtain ⟨r, p', q', r1, r2, hp, hq, e⟩ := t_draw (ns := ns) (n := 4) (R := [.lst (rs.map D.int)]) (by omega) (by omega) hp hq
        by_cases hr : 0 < r
        · exact ⟨s, p', q', by omega, hp, hq, by simp [e, hr]⟩
        · exact ⟨x, p', q', hrs x hx, hp, hq, by simp [e, hr]⟩) rs.length 0 p4 q4 (by simp) hp hq
    have kf'' : fit us.length = true := fit_of (by omega)
    refine ⟨us, p5, q5, ⟨by omega, hus⟩, by omega, hp, hq, ?_⟩
    unfold f__law_row fnN b__law_row
    show (match sSeq _ (sSeq _ _) [.scr (ns.map D.int), .loc 0, .int m, .und, .und, .und, .und] (tw p q []) with
      | .rt (.loc i) S' => fnEnd true 1 (.rt (.loc i) S')
      | r => fnEnd false 1 r) = _
    have u : fCompM true (fVar 3) (tgName 6) (fIf (tVal (fOp2 oGt (fCall f__law_draw (fCons (fVar 0) (fCons (fVar 1) (fCons (fCon (.int 4)) (fNil))))) (fCon (.int 0)))) (fVar 4) (fVar 6)) [6] [.scr (ns.map D.int), .loc 0, .int m, .loc 1, .int s, .und, .und] (tw p4 q4 [.lst (rs.map D.int)]) = .ok (.loc 2) (tw p5 q5 [.lst (rs.map D.int), .lst (us.map D.int)]) := by
      show (match compV (tgName 6) (fIf (tVal (fOp2 oGt (fCall f__law_draw (fCons (fVar 0) (fCons (fVar 1) (fCons (fCon (.int 4)) (fNil))))) (fCon (.int 0)))) (fVar 4) (fVar 6)) [.scr (ns.map D.int), .loc 0, .int m, .loc 1, .int s, .und, .und] 1 ((rs.map D.int).length + 1) 0 (tw p4 q4 [.lst (rs.map D.int)]) with
        | .ok xs S2 => bif fit xs.length then Out.ok (D.loc S2.length) (S2 ++ [Ob.lst xs]) else Out.bad
        | _ => Out.bad) = _
      rw [List.length_map, e5]
      simp only [List.length_map, kf'', cond_true]
      rfl
    rw [sSeq_nx s1, sSeq_nx (e' := [.scr (ns.map D.int), .loc 0, .int m, .loc 2, .int s, .und, .und]) (S' := tw p5 q5 [.lst (rs.map D.int), .lst (us.map D.int)]) (by
      rw [sIf_yes t3, sSeq_nx (e' := [.scr (ns.map D.int), .loc 0, .int m, .loc 1, .int s, .und, .und]) (S' := tw p4 q4 [.lst (rs.map D.int)]) (by exact asgF (callF (consF rfl (consF rfl (consF rfl x_nil))) e4))]
      exact asgF u)]
    exact (fin us p5 q5).1
  · rw [decide_eq_false hb] at t3
    refine ⟨rs, p3, q3, ⟨by omega, hrs⟩, by omega, hp, hq, ?_⟩
    unfold f__law_row fnN b__law_row
    show (match sSeq _ (sSeq _ _) [.scr (ns.map D.int), .loc 0, .int m, .und, .und, .und, .und] (tw p q []) with
      | .rt (.loc i) S' => fnEnd true 1 (.rt (.loc i) S')
      | r => fnEnd false 1 r) = _
    rw [sSeq_nx s1, sSeq_nx (e' := [.scr (ns.map D.int), .loc 0, .int m, .loc 1, .und, .und, .und]) (S' := tw p3 q3 [.lst (rs.map D.int)]) (by rw [sIf_no t3]; rfl)]
    exact (fin rs p3 q3).2

end Sf
end

section
set_option Elab.async false
set_option maxRecDepth 100000
set_option linter.all false
set_option maxHeartbeats 4000000
namespace Sf
open PySem L2
/-! the pairs of a form and its bare kin -/
theorem bx_bound : (lvAll.all fun v => Nat.ble (bx v).length (bif decide (v.t ≤ 2) then 19 else bif decide (v.t ≤ 3) then 24 else 31)) = true := by decide +kernel
theorem bx_le {v : Lv} (h : v ∈ lvAll) : (bx v).length ≤ 31 ∧ (v.t ≤ 3 → (bx v).length ≤ 24) ∧ (v.t ≤ 2 → (bx v).length ≤ 19) := by
  have f := Nat.le_of_ble_eq_true (all_ok bx_bound h)
  by_cases h2 : v.t ≤ 2
  · rw [decide_eq_true h2] at f
    simp only [cond_true] at f
    exact ⟨by omega, fun _ => by omega, fun _ => f⟩
  · rw [decide_eq_false h2] at f
    simp only [cond_false] at f
    by_cases h3 : v.t ≤ 3
    · rw [decide_eq_true h3] at f
      simp only [cond_true] at f
      exact ⟨by omega, fun _ => f, fun h => absurd h h2⟩
    · rw [decide_eq_false h3] at f
      simp only [cond_false] at f
      exact ⟨f, fun h => absurd h h3, fun h => absurd h h2⟩
theorem cnt_drawn {f : List Lv} (h : Drawn f) : cnt f ≤ 6859 ∧ (f.length ≤ 2 → cnt f ≤ 576) := by
  have ha := h.all
  obtain ⟨h1, h2, h3⟩ := h
  match f, h1, h2, h3, ha with
  | [v], _, _, h3, ha =>
    have b := (bx_le (ha v (by simp))).1
    have : cnt [v] ≤ 31 := Nat.mul_le_mul b (Nat.le_refl 1)
    exact ⟨by omega, fun _ => by omega⟩
  | [v, w], _, _, h3, ha =>
    have t1 := (h3 v (by simp)).2.1
    have t2 := (h3 w (by simp)).2.1
    simp [mostT] at t1 t2
    have b1 := (bx_le (ha v (by simp))).2.1 t1
    have b2 := (bx_le (ha w (by simp))).2.1 t2
    have : cnt [v, w] ≤ 24 * (24 * 1) := Nat.mul_le_mul b1 (Nat.mul_le_mul b2 (Nat.le_refl 1))
    exact ⟨by omega, fun _ => by omega⟩
  | [v, w, x], _, _, h3, ha =>
    have t1 := (h3 v (by simp)).2.1
    have t2 := (h3 w (by simp)).2.1
    have t3 := (h3 x (by simp)).2.1
    simp [mostT] at t1 t2 t3
    have b1 := (bx_le (ha v (by simp))).2.2 t1
    have b2 := (bx_le (ha w (by simp))).2.2 t2
    have b3 := (bx_le (ha x (by simp))).2.2 t3
    have : cnt [v, w, x] ≤ 19 * (19 * (19 * 1)) := Nat.mul_le_mul b1 (Nat.mul_le_mul b2 (Nat.mul_le_mul b3 (Nat.le_refl 1)))
    exact ⟨by omega, fun h => by simp at h⟩
  | v :: w :: x :: y :: vs, _, h2, _, _ => simp at h2
abbrev bare (v : Lv) : Lv := ⟨v.t, 1, none⟩
/-- the last level bare -/
def othF (vs : List Lv) (v : Lv) : List Lv := vs ++ [bare v]
theorem oth_drawn {vs : List Lv} {v : Lv} (h : Drawn (vs ++ [v])) : Drawn (othF vs v) := by
  obtain ⟨h1, h2, h3⟩ := h
  unfold othF
  simp only [List.length_append, List.length_singleton] at h1 h2 h3
  refine ⟨by simp, by simpa using h2, fun u hu => ?_⟩
  simp only [List.length_append, List.length_singleton]
  rcases List.mem_append.mp hu with hu | hu
  · exact h3 u (by simp [hu])
  · rw [List.mem_singleton.mp hu]
    have := h3 v (by simp)
    exact ⟨this.1, this.2.1, Int.le_refl _, (show (1 : Int) ≤ 3 by decide), .inl rfl⟩
theorem bx_bare {v : Lv} (h1 : 1 ≤ v.t) (h2 : v.t ≤ 2) : (bx (bare v)).length ≤ 4 := by
  obtain ⟨t, l, c⟩ := v
  simp only at h1 h2
  have : t = 1 ∨ t = 2 := by omega
  rcases this with rfl | rfl
  · exact (show Nat.ble (bx ⟨1, 1, none⟩).length 4 = true from by decide +kernel) |> Nat.le_of_ble_eq_true
  · exact (show Nat.ble (bx ⟨2, 1, none⟩).length 4 = true from by decide +kernel) |> Nat.le_of_ble_eq_true
theorem few_oth {vs : List Lv} {v : Lv} (h : Drawn (vs ++ [v])) : Few (vs ++ [v]) (othF vs v) := by
  have h' := oth_drawn h
  have c1 := cnt_drawn h
  have c2 := cnt_drawn h'
  have l0 : (othF vs v).length = (vs ++ [v]).length := by simp [othF]
  by_cases l1 : (vs ++ [v]).length ≤ 2
  · exact Few.box h.form.2.2 h'.form.2.2 (Nat.lt_of_le_of_lt (Nat.mul_le_mul (c1.2 l1) (c2.2 (by omega))) (by decide))
  · have l3 : (vs ++ [v]).length = 3 := by have := h.2.1; omega
    have all := h.all
    have h3 := h.2.2
    have l2 : vs.length = 2 := by simp at l3; omega
    obtain ⟨a, b, rfl⟩ : ∃ a b, vs = [a, b] := by
      match vs, l2 with
      | [a, b], _ => exact ⟨a, b, rfl⟩
    have t1 := (h3 a (by simp)).2.1
    have t2 := (h3 b (by simp)).2.1
    have t3 := (h3 v (by simp)).2.1
    have t3' := (h3 v (by simp)).1
    simp [mostT] at t1 t2 t3
    have b1 := (bx_le (all a (by simp))).2.2 t1
    have b2 := (bx_le (all b (by simp))).2.2 t2
    have b3 := bx_bare t3' t3
    have : cnt (othF [a, b] v) ≤ 19 * (19 * (4 * 1)) := Nat.mul_le_mul b1 (Nat.mul_le_mul b2 (Nat.mul_le_mul b3 (Nat.le_refl 1)))
    exact Few.box h.form.2.2 h'.form.2.2 (Nat.lt_of_le_of_lt (Nat.mul_le_mul c1.1 this) (by decide))

end Sf
end

section
set_option Elab.async false
set_option maxRecDepth 100000
set_option linter.all false
set_option maxHeartbeats 4000000
namespace Sf
open PySem L2
/-! the law's answers -/
theorem lstF {m : Bool} {fs : FA} {env : En} {S S1 : Sto} {xs : List D} (h : fs env S = .ok xs S1) : fLst m fs env S = outO (mkL m xs S1) := by unfold fLst; rw [h]; rfl
theorem mt_ne {vs : List Lv} {s : Int} {p : List Int} (h : Mt vs s p) : p ≠ [] := by
  rintro rfl
  have := h.w
  cases this
theorem ptsF_ne {l : List FB} (h : ∀ x ∈ l, x.1.2.2 ≠ [] ∧ x.2.2.2 ≠ []) : ∀ (n : Nat) (s : Int), n ≤ l.length → ptsF l n s ≠ []
  | 0, s, _ => by simp [ptsF]
  | n + 1, s, hn => by
    unfold ptsF
    obtain ⟨x, hx⟩ : ∃ x, l[n]? = some x := ⟨_, List.getElem?_eq_getElem (by omega)⟩
    rw [hx]
    simp only
    have hp : pathOf x.1 x.2 s ≠ [] := by
      have := h x (List.mem_of_getElem? hx)
      unfold pathOf
      split
      · exact this.1
      · exact this.2
    cases hq : pathOf x.1 x.2 s with
    | nil => exact absurd hq hp
    | cons a p =>
      rw [List.map_cons, List.flatten_cons]
      have := ptsF_ne h n a (by omega)
      intro e
      exact this (List.append_eq_nil_iff.mp e).1
theorem surp_ne : ∀ {vs : List Lv} {u : Un} {l : List FB}, (∀ v ∈ vs, v ∈ lvAll) → surpM vs u = some l → ∀ x ∈ l, x.1.2.2 ≠ [] ∧ x.2.2.2 ≠ []
  | [], u, l, _, h => by simp [surpM] at h; subst h; simp
  | v :: vs, u, l, hv, h => by
    obtain ⟨b, c, l1, _, h2, h3, h4, rfl⟩ := surpM_cons h
    have := surp_ne (fun w hw => hv w (by simp [hw])) h4
    intro x hx
    rcases List.mem_cons.mp hx with rfl | hx
    · have hb := best_ok (hv v (by simp)) (.inl rfl) h2
      have hc := best_ok (hv v (by simp)) (.inr rfl) h3
      obtain ⟨_, _, _, m1, _, _⟩ := paths_ok (hv v (by simp)) hb.mem
      obtain ⟨_, _, _, m2, _, _⟩ := paths_ok (hv v (by simp)) hc.mem
      exact ⟨mt_ne m1, mt_ne m2⟩
    · exact this x hx
/-- the surplus row, or nothing -/
def surR (vs : List Lv) : Option (List Int) := (surpM vs u0).map fun l => ptsF l vs.length 0
theorem surR_ne {vs : List Lv} (h : ∀ v ∈ vs, v ∈ lvAll) {w : List Int} (e : surR vs = some w) : w ≠ [] := by
  unfold surR at e
  cases hs : surpM vs u0 with
  | none => rw [hs] at e; cases e
  | some l =>
    rw [hs] at e
    cases e
    exact ptsF_ne (surp_ne h hs) _ _ (by rw [surpM_len hs]; omega)
theorem surR_len {vs : List Lv} (hf : Form vs) (h : ∀ v ∈ vs, v ∈ lvAll) {w : List Int} (e : surR vs = some w) : w.length ≤ 8000 := by
  unfold surR at e
  cases hs : surpM vs u0 with
  | none => rw [hs] at e; cases e
  | some l =>
    rw [hs] at e
    cases e
    have h1 := ptsF_len (surp_all h hs) vs.length 0
    have h2 : 20 ^ vs.length ≤ 20 ^ 3 := Nat.pow_le_pow_right (by decide) hf.2.1
    exact Nat.le_trans h1 (Nat.le_trans h2 (by decide))
theorem or_new {f : FE} {env : En} {o : Option (List Int)} {S : Sto} (h : f env S = outN o S) (hne : ∀ w, o = some w → w ≠ []) : fOrL f (fLst true (fNil)) env S = .ok (.loc S.length) (S ++ [.lst ((o.getD []).map D.int)]) := by
  unfold fOrL
  rw [h]
  cases o with
  | none => rfl
  | some w =>
    show (match (S ++ [Ob.lst (w.map D.int)])[S.length]? with
      | some (.lst l) => bif l.isEmpty then fLst true fNil env (S ++ [Ob.lst (w.map D.int)]) else Out.ok (D.loc S.length) (S ++ [Ob.lst (w.map D.int)])
      | _ => .bad) = _
    have e : (S ++ [Ob.lst (w.map D.int)])[S.length]? = some (.lst (w.map D.int)) := by simp
    rw [e]
    have : (w.map D.int).isEmpty = false := by
      cases w with
      | nil => exact absurd rfl (hne [] rfl)
      | cons => rfl
    simp only [this, cond_false]
    rfl
section
variable {vs : List Lv} {v : Lv} {rs : List Int} {n : Nat} {S : Sto} {o : Option (List Int)}
/-- what the four answers are -/
def ansO (f : List Lv) (rs : List Int) (o : Option (List Int)) : List (List D) := [(mpV f (playL f rs)).map D.int, ((surR f).getD []).map D.int, (o.getD []).map D.int, (playL f rs).st.map prD]
theorem low_oint {n : Nat} {w : List Int} : lowO n (.lst (w.map D.int)) = true := low_intsN w
theorem t_answers (hd : Drawn (vs ++ [v])) (hr : Row rs) (hn : S[n]? = some (.lst (rs.map D.int))) (hlow : ∀ o ∈ S, lowO S.length o = true)
    (ho : Parted (vs ++ [v]) (othF vs v) o) (hp : ∀ S, pureN f_parting [formD (vs ++ [v]), formD (othF vs v)] S = outN o S) :
    ∃ e', b__law_answers [formD (vs ++ [v]), .loc n, .und] S = .rt (.lst [.loc S.length, .loc (S.length + 1), .loc (S.length + 2), .loc (S.length + 3)]) (S ++ (ansO (vs ++ [v]) rs o).map Ob.lst) ∧ e' = () := by
  refine ⟨(), ?_, rfl⟩
  have ff := hd.form
  have all := hd.all
  have nl : n < S.length := (List.getElem?_eq_some_iff.mp hn).1
  have c1 : oCut false (formD (vs ++ [v])) none (some (-1)) S = some (.tup (vs.map Lv.D), S) := by
    show some (D.tup (cutD ((vs ++ [v]).map Lv.D) none (some (-1))), S) = _
    have : cutD ((vs ++ [v]).map Lv.D) none (some (-1)) = vs.map Lv.D := by
      unfold cutD
      rw [HT.sIx_none, List.drop_zero, Nat.sub_zero]
      have : HT.sIx ((vs ++ [v]).map Lv.D).length ((vs ++ [v]).map Lv.D).length (some (-1)) = vs.length := by
        unfold HT.sIx
        simp only
        rw [if_pos (by decide), List.length_map, List.length_append, List.length_singleton]
        omega
      rw [this, List.map_append, List.take_append_of_le_length (by simp), List.take_of_length_le (by simp)]
    rw [this]
  have ix : ixD ((vs ++ [v]).map Lv.D) (-1) = some v.D := by rw [List.map_append]; exact ix_last
  have e0 : fOp2 oIx (fOp2 oIx (fVar 0) (fOp1 oNeg (fCon (.int 1)))) (fCon (.int 0)) [formD (vs ++ [v]), .loc n, .und] S = .ok (.int v.t) S := by
    refine op2F (x := v.D) (op2F (y := .int (-1)) rfl rfl ?_) rfl rfl
    show (match ixD ((vs ++ [v]).map Lv.D) (-1) with
      | some d => some (d, S)
      | none => none) = _
    rw [ix]
  have s1 : sAsg 2 (fOp2 (oAdd false) (fCut false (fVar 0) (fNoPart) (fPart (fOp1 oNeg (fCon (.int 1))))) (fTup (fCons (fTup (fCons (fOp2 oIx (fOp2 oIx (fVar 0) (fOp1 oNeg (fCon (.int 1)))) (fCon (.int 0))) (fCons (fCon (.int 1)) (fCons (fCon .non) (fNil))))) (fNil)))) [formD (vs ++ [v]), .loc n, .und] S = .nx [formD (vs ++ [v]), .loc n, formD (othF vs v)] S := by
    refine asgF (x := formD (othF vs v)) ?_
    have a1 : fCut false (fVar 0) (fNoPart) (fPart (fOp1 oNeg (fCon (.int 1)))) [formD (vs ++ [v]), .loc n, .und] S = .ok (.tup (vs.map Lv.D)) S := by
      show outO (oCut false (formD (vs ++ [v])) none (some (-1)) S) = _
      rw [c1]; rfl
    have a2 : fTup (fCons (fTup (fCons (fOp2 oIx (fOp2 oIx (fVar 0) (fOp1 oNeg (fCon (.int 1)))) (fCon (.int 0))) (fCons (fCon (.int 1)) (fCons (fCon .non) (fNil))))) (fNil)) [formD (vs ++ [v]), .loc n, .und] S = .ok (.tup [(bare v).D]) S := by
      rw [x_tup, consF (x := (bare v).D) (S1 := S) (by rw [x_tup, consF e0 (consF rfl (consF rfl x_nil))]; rfl) x_nil]; rfl
    refine op2F a1 a2 ?_
    have : formD (othF vs v) = .tup (vs.map Lv.D ++ [(bare v).D]) := by
      show D.tup ((vs ++ [bare v]).map Lv.D) = _
      rw [List.map_append]; rfl
    rw [this]
    show (bif fit ((vs.map Lv.D).length + [(bare v).D].length) then some (D.tup (vs.map Lv.D ++ [(bare v).D]), S) else none) = _
    rw [fit_of (by have := hd.2.1; simp at this ⊢; omega)]; rfl
  have A0 := t_match_pointsV ff hr hn hlow
  have A1 : fCall (pureN f_surplus_row) (fCons (fVar 0) (fNil)) [formD (vs ++ [v]), .loc n, formD (othF vs v)] (S ++ [.lst ((mpV (vs ++ [v]) (playL (vs ++ [v]) rs)).map D.int)]) = outN (surR (vs ++ [v])) (S ++ [.lst ((mpV (vs ++ [v]) (playL (vs ++ [v]) rs)).map D.int)]) := by
    rw [x_call, consF (x := formD (vs ++ [v])) (S1 := S ++ [.lst ((mpV (vs ++ [v]) (playL (vs ++ [v]) rs)).map D.int)]) rfl x_nil, x_bind]
    exact t_surplus_rowN ff all (fun l h => surp_all all h)
  have O1 := or_new A1 (fun w e => surR_ne all e)
  generalize hm0 : (mpV (vs ++ [v]) (playL (vs ++ [v]) rs)).map D.int = m0 at A0 O1
  generalize hm1 : ((surR (vs ++ [v])).getD []).map D.int = m1 at O1
  have A2 : fCall (pureN f_parting) (fCons (fVar 0) (fCons (fVar 2) (fNil))) [formD (vs ++ [v]), .loc n, formD (othF vs v)] (S ++ [.lst m0] ++ [.lst m1]) = outN o (S ++ [.lst m0] ++ [.lst m1]) := by
    rw [x_call, consF (x := formD (vs ++ [v])) (S1 := S ++ [.lst m0] ++ [.lst m1]) rfl (consF (x := formD (othF vs v)) (S1 := S ++ [.lst m0] ++ [.lst m1]) rfl x_nil), x_bind]
    exact hp _
  have O2 := or_new A2 (fun w e => by subst e; exact ho.2.1)
  generalize hm2 : (o.getD []).map D.int = m2 at O2
  have hn3 : (S ++ [Ob.lst m0] ++ [Ob.lst m1] ++ [Ob.lst m2])[n]? = some (.lst (rs.map D.int)) := by
    rw [List.append_assoc, List.append_assoc, List.getElem?_append_left nl]; exact hn
  have A3 := t_scoreV ff hr hn3
  have fs : fit ((playL (vs ++ [v]) rs).st.map prD).length = true := fit_of (by rw [List.length_map, playL_len]; have := hd.2.1; omega)
  have O3 : fOpN (oList true) (fCons (fCall f_score (fCons (fVar 0) (fCons (fVar 1) (fNil)))) (fNil)) [formD (vs ++ [v]), .loc n, formD (othF vs v)] (S ++ [Ob.lst m0] ++ [Ob.lst m1] ++ [Ob.lst m2]) = .ok (.loc (S ++ [Ob.lst m0] ++ [Ob.lst m1] ++ [Ob.lst m2]).length) (S ++ [Ob.lst m0] ++ [Ob.lst m1] ++ [Ob.lst m2] ++ [Ob.lst ((playL (vs ++ [v]) rs).st.map prD)]) := by
    refine opNF0 (consF (callF (consF rfl (consF rfl x_nil)) A3) x_nil) ?_
    show mkL true ((playL (vs ++ [v]) rs).st.map prD) _ = _
    rw [x_mkT, fs]; rfl
  unfold b__law_answers
  rw [sSeq_nx s1, x_ret]
  have cs : fCons (fCall f_match_points (fCons (fVar 0) (fCons (fVar 1) (fNil)))) (fCons (fOrL (fCall (pureN f_surplus_row) (fCons (fVar 0) (fNil))) (fLst true (fNil))) (fCons (fOrL (fCall (pureN f_parting) (fCons (fVar 0) (fCons (fVar 2) (fNil)))) (fLst true (fNil))) (fCons (fOpN (oList true) (fCons (fCall f_score (fCons (fVar 0) (fCons (fVar 1) (fNil)))) (fNil))) (fNil)))) [formD (vs ++ [v]), .loc n, formD (othF vs v)] S
      = .ok [.loc S.length, .loc (S.length + 1), .loc (S.length + 2), .loc (S.length + 3)] (S ++ (ansO (vs ++ [v]) rs o).map Ob.lst) := by
    have l1 : (S ++ [Ob.lst m0]).length = S.length + 1 := by simp
    have l2 : (S ++ [Ob.lst m0] ++ [Ob.lst m1]).length = S.length + 2 := by simp
    have l3 : (S ++ [Ob.lst m0] ++ [Ob.lst m1] ++ [Ob.lst m2]).length = S.length + 3 := by simp
    rw [l1] at O1
    rw [l2] at O2
    rw [l3] at O3
    have en : S ++ [Ob.lst m0] ++ [Ob.lst m1] ++ [Ob.lst m2] ++ [Ob.lst ((playL (vs ++ [v]) rs).st.map prD)] = S ++ (ansO (vs ++ [v]) rs o).map Ob.lst := by
      unfold ansO
      rw [hm0, hm1, hm2]
      simp
    rw [consF (callF (consF rfl (consF rfl x_nil)) A0) (consF O1 (consF O2 (consF O3 x_nil))), en]
  rw [lstF cs]; rfl
theorem t_answersK (hd : Drawn (vs ++ [v])) (hr : Row rs) (hn : S[n]? = some (.lst (rs.map D.int))) (hlow : ∀ o ∈ S, lowO S.length o = true)
    (ho : Parted (vs ++ [v]) (othF vs v) o) (hp : ∀ S, pureN f_parting [formD (vs ++ [v]), formD (othF vs v)] S = outN o S) :
    f__law_answersK [formD (vs ++ [v]), .loc n] S = .ok (.lst [.loc S.length, .loc (S.length + 1), .loc (S.length + 2), .loc (S.length + 3)]) (S ++ (ansO (vs ++ [v]) rs o).map Ob.lst) := by
  obtain ⟨_, e, _⟩ := t_answers hd hr hn hlow ho hp
  unfold f__law_answersK fnK
  show (match b__law_answers [formD (vs ++ [v]), .loc n, .und] S with
    | .rt d S' => Out.ok d S'
    | .nx _ S' => .ok .non S'
    | .xc c S' => .exc c S'
    | _ => .bad) = _
  rw [e]
theorem pl_ans {f : List Lv} : plL 3 ((ansO f rs o).map D.lst) = true := by
  have h : ∀ w : List Int, pl 3 (D.lst (w.map D.int)) = true := fun w => by
    show plL 2 _ = true
    exact plL_ints w
  have h2 : pl 3 (D.lst ((playL f rs).st.map prD)) = true := by
    show plL 2 _ = true
    exact pl_st _
  unfold ansO
  simp only [List.map_cons, List.map_nil, plL_cons, plL_nil, h, h2, Bool.and_self]
theorem t_answersF (hd : Drawn (vs ++ [v])) (hr : Row rs) (hn : S[n]? = some (.lst (rs.map D.int))) (hlow : ∀ o ∈ S, lowO S.length o = true)
    (ho : Parted (vs ++ [v]) (othF vs v) o) (hp : ∀ S, pureN f_parting [formD (vs ++ [v]), formD (othF vs v)] S = outN o S) :
    f__law_answers [formD (vs ++ [v]), .loc n] S = .ok (.lst ((ansO (vs ++ [v]) rs o).map D.lst)) S := by
  obtain ⟨_, e, _⟩ := t_answers hd hr hn hlow ho hp
  unfold f__law_answers fn
  show fnEnd false S.length (b__law_answers [formD (vs ++ [v]), .loc n, .und] S) = _
  rw [e]
  have h : ∀ w : List Int, ∀ S' : Sto, mapO (frzD 7 S' S.length) (w.map D.int) = some (w.map D.int) := fun w S' => frz_plL _ 2 7 (plL_ints w) (by omega)
  have h2 : ∀ S' : Sto, mapO (frzD 7 S' S.length) ((playL (vs ++ [v]) rs).st.map prD) = some ((playL (vs ++ [v]) rs).st.map prD) := fun S' => frz_plL _ 2 7 (pl_st _) (by omega)
  have hS : S.all (lowO S.length) = true := List.all_eq_true.mpr hlow
  have tk : (S ++ (ansO (vs ++ [v]) rs o).map Ob.lst).take S.length = S := by simp
  have ne : Nat.beq (S ++ (ansO (vs ++ [v]) rs o).map Ob.lst).length S.length = false := by
    rw [List.length_append]
    have : ((ansO (vs ++ [v]) rs o).map Ob.lst).length = 4 := rfl
    rw [this]
    cases hb : Nat.beq (S.length + 4) S.length with
    | false => rfl
    | true => have := Nat.eq_of_beq_eq_true hb; omega
  have one : ∀ i, i < 4 → ∀ l, (ansO (vs ++ [v]) rs o)[i]? = some l → mapO (frzD 7 (S ++ (ansO (vs ++ [v]) rs o).map Ob.lst) S.length) l = some l → frzD 8 (S ++ (ansO (vs ++ [v]) rs o).map Ob.lst) S.length (.loc (S.length + i)) = some (.lst l) := fun i _ l hl hm => by
    have g : (S ++ (ansO (vs ++ [v]) rs o).map Ob.lst)[S.length + i]? = some (.lst l) := by
      rw [List.getElem?_append_right (by omega), Nat.add_sub_cancel_left, List.getElem?_map, hl]; rfl
    have b : Nat.blt (S.length + i) S.length = false := by
      cases hb : Nat.blt (S.length + i) S.length with
      | false => rfl
      | true =>
        have := Nat.le_of_ble_eq_true hb
        omega
    show (bif Nat.blt (S.length + i) S.length then some (D.loc (S.length + i)) else match (S ++ (ansO (vs ++ [v]) rs o).map Ob.lst)[S.length + i]? with
      | some (Ob.lst l) => (mapO (frzD 7 (S ++ (ansO (vs ++ [v]) rs o).map Ob.lst) S.length) l).map D.lst
      | _ => none) = _
    rw [b, g]
    simp only [cond_false]
    rw [hm]; rfl
  show (bif Nat.beq (S ++ (ansO (vs ++ [v]) rs o).map Ob.lst).length S.length then Out.ok _ _ else match (mapO (frzD 8 (S ++ (ansO (vs ++ [v]) rs o).map Ob.lst) S.length) [.loc (S.length + 0), .loc (S.length + 1), .loc (S.length + 2), .loc (S.length + 3)]).map D.lst with
    | some d' => (bif ((S ++ (ansO (vs ++ [v]) rs o).map Ob.lst).take S.length).all (lowO S.length) then Out.ok d' ((S ++ (ansO (vs ++ [v]) rs o).map Ob.lst).take S.length) else .bad)
    | none => .bad) = _
  rw [ne, tk, hS]
  have o0 := one 0 (by omega) _ rfl (h _ _)
  have o1 := one 1 (by omega) _ rfl (h _ _)
  have o2 := one 2 (by omega) _ rfl (h _ _)
  have o3 := one 3 (by omega) _ rfl (h2 _)
  have mm : mapO (frzD 8 (S ++ (ansO (vs ++ [v]) rs o).map Ob.lst) S.length) [.loc (S.length + 0), .loc (S.length + 1), .loc (S.length + 2), .loc (S.length + 3)] = some ((ansO (vs ++ [v]) rs o).map D.lst) := by
    unfold mapO mapO mapO mapO mapO
    rw [o0, o1, o2, o3]; rfl
  rw [mm]
  rfl
end

end Sf
end

section
set_option Elab.async false
set_option maxRecDepth 100000
set_option linter.all false
set_option maxHeartbeats 4000000
namespace Sf
open PySem L2
/-! k20: the law -/
section
variable {i j : Nat} {vs : List Lv} {rs : List Int} {s : Int} {S : Sto}
theorem t_copy (h : Form vs) (b : BdAt S i j vs rs) (hl : rs.length < 16777216) : f_Board_copy [.loc i] S = .ok (.loc S.length) (S ++ [bdO vs (S.length + 2), .lst [], .lst (rs.map D.int)]) := by
  have mk := t_make (vs := vs) (S := S) (S' := S) (fs := fCons (fOp1 (getF "form") (fVar 0)) (fNil)) (env := [.loc i, .und]) h (by simp [b.form])
  have e1 : sAsg 1 (fMake f_Board___init__ (fCons (fOp1 (getF "form") (fVar 0)) (fNil))) [.loc i, .und] S = .nx [.loc i, .loc S.length] (S ++ [bdO vs (S.length + 1), .lst []]) := by
    rw [x_asg, mk]; rfl
  have il : i < S.length := (List.getElem?_eq_some_iff.mp b.ob).1
  have jl : j < S.length := (List.getElem?_eq_some_iff.mp b.pt).1
  have b2 : BdAt (S ++ [bdO vs (S.length + 1), .lst []]) i j vs rs := ⟨by rw [List.getElem?_append_left il]; exact b.ob, by rw [List.getElem?_append_left jl]; exact b.pt⟩
  have g1 : (S ++ [bdO vs (S.length + 1), Ob.lst []] ++ [Ob.lst (rs.map D.int)])[S.length]? = some (bdO vs (S.length + 1)) := by simp
  have f : fit rs.length = true := fit_of (by omega)
  have e2 : sPutF "points" (fOpN (oList true) (fCons (fOp1 (getF "points") (fVar 0)) (fNil))) (fVar 1) [.loc i, .loc S.length] (S ++ [bdO vs (S.length + 1), .lst []]) = .nx [.loc i, .loc S.length] (S ++ [bdO vs (S.length + 2), .lst [], .lst (rs.map D.int)]) := by
    have l1 : fOpN (oList true) (fCons (fOp1 (getF "points") (fVar 0)) (fNil)) [.loc i, .loc S.length] (S ++ [bdO vs (S.length + 1), .lst []]) = .ok (.loc (S.length + 2)) (S ++ [bdO vs (S.length + 1), .lst []] ++ [.lst (rs.map D.int)]) := by
      have o : oList true [.loc j] (S ++ [bdO vs (S.length + 1), .lst []]) = some (.loc (S.length + 2), S ++ [bdO vs (S.length + 1), .lst []] ++ [.lst (rs.map D.int)]) := by
        have : lsR (.loc j) (S ++ [bdO vs (S.length + 1), .lst []]) = some (rs.map D.int) := by
          show (match (S ++ [bdO vs (S.length + 1), Ob.lst []])[j]? with
            | some (.lst l) => some l
            | _ => none) = _
          rw [b2.pt]
        show (match lsR (.loc j) (S ++ [bdO vs (S.length + 1), .lst []]) with
          | some l => mkL true l (S ++ [bdO vs (S.length + 1), .lst []])
          | none => none) = _
        rw [this]
        simp [f]
      simp only [x_opN, x_cons, pt_at b2, x_bind, x_nil, o, x_outO]
    unfold sPutF
    rw [l1]
    show (match (S ++ [bdO vs (S.length + 1), Ob.lst []] ++ [Ob.lst (rs.map D.int)])[S.length]? with
      | some (.ins fs) => bif Nat.blt fs.length 1000 then SR.nx [.loc i, .loc S.length] ((S ++ [bdO vs (S.length + 1), Ob.lst []] ++ [Ob.lst (rs.map D.int)]).set S.length (.ins (putD "points" (.loc (S.length + 2)) fs))) else .bad
      | _ => .bad) = _
    rw [g1]
    simp only
    rw [List.append_assoc, List.set_append_right _ _ (Nat.le_refl _)]
    simp
    rfl
  unfold f_Board_copy fnK b_Board_copy
  show (match sSeq _ (sSeq _ _) [.loc i, .und] S with
    | .rt d S' => Out.ok d S'
    | .nx _ S' => .ok .non S'
    | .xc c S' => .exc c S'
    | _ => .bad) = _
  rw [sSeq_nx e1, sSeq_nx e2]
  rfl
end
theorem play_mem {vs : List Lv} (hv : Form vs) {rs : List Int} (hr : ∀ r ∈ rs, r = 0 ∨ r = 1) : playM vs rs = playL vs rs := (sofar hv.2.2 _ rs rfl hr).1
theorem t_playB {vs : List Lv} {row : D} (hv : vs.length ≤ 1000) : ∀ (rs : List Int) (x : Play) (z : D), x.st.length = vs.length →
    ∃ z', forL (tgName 5) playB (rs.map D.int) [formD vs, row, stD x.st, oI x.w, .int x.m, z] [] =
      .nx [formD vs, row, stD (rs.foldl (stepM vs) x).st, oI (rs.foldl (stepM vs) x).w, .int (rs.foldl (stepM vs) x).m, z'] []
  | [], x, z, _ => ⟨z, rfl⟩
  | s :: rs, x, z, h => by
    rw [List.map_cons, forL_cons (env1 := [formD vs, row, stD x.st, oI x.w, .int x.m, .int s]) rfl]
    have e : playB [formD vs, row, stD x.st, oI x.w, .int x.m, .int s] [] = .nx [formD vs, row, stD (stepM vs x s).st, oI (stepM vs x s).w, .int (stepM vs x s).m, .int s] [] := by
      have ea := t_after (s := s) (S := []) hv h
      unfold playB stepM
      obtain ⟨st, w, m⟩ := x
      cases w with
      | none => simp [ea]
      | some w => simp
    rw [e]
    exact t_playB hv rs (stepM vs x s) (.int s) (by rw [stepM_len]; exact h)
theorem t_playedP {vs : List Lv} {rs : List Int} {S : Sto} (h : Form vs) : pureF f_played [formD vs, rowD rs] S = .ok (.tup [stD (playM vs rs).st, oI (playM vs rs).w, .int (playM vs rs).m]) S := by
  have hl : lowD 0 (rowD rs) = true := low_ints rs
  refine pure_eq (by simp only [lowL, low_form', hl]; rfl) ?_
  obtain ⟨z', key⟩ := t_playB (vs := vs) (row := rowD rs) (by have := h.2.1; omega) rs (start vs) .und (by simp [start])
  unfold f_played fn b_played
  change fnEnd false 0 (sSeq _ (sSeq (sForD (fVar 1) (tgName 5) playB) _) [formD vs, rowD rs, .und, .und, .und, .und] []) = _
  have e2 : sForD (fVar 1) (tgName 5) playB [formD vs, rowD rs, stD (start vs).st, .non, .int 0, .und] [] = .nx [formD vs, rowD rs, stD (playM vs rs).st, oI (playM vs rs).w, .int (playM vs rs).m, z'] [] := key
  have e1 : sPar3 2 3 4 (fCons (fCall (pureF f_start_of) (fCons (fVar 0) (fNil))) (fCons (fCon .non) (fCons (fCon (.int 0)) (fNil)))) [formD vs, rowD rs, .und, .und, .und, .und] [] = .nx [formD vs, rowD rs, stD (start vs).st, .non, .int 0, .und] [] := by
    simp [t_start h]
  rw [sSeq_nx e1, sSeq_nx e2]
  have v3 : fVar 3 [formD vs, rowD rs, stD (playM vs rs).st, oI (playM vs rs).w, .int (playM vs rs).m, z'] [] = .ok (oI (playM vs rs).w) [] := by cases (playM vs rs).w <;> rfl
  rw [x_ret, x_tup, consF rfl (consF v3 (consF rfl x_nil))]
  exact end_rt rfl
theorem t_need_rowP {rs : List Int} {S : Sto} (h : Row rs) : pureF f_need_row [rowD rs] S = .ok .non S := by
  obtain ⟨h1, h3⟩ := h
  refine pure_eq (by simp [lowL, lowD, low_ints]) ?_
  have e := comp_map D.int (fun _ => D.bl true) (fCall (pureF f_is_side) (fCons (fVar 1) (fNil))) [rowD rs, .und] 1 [] rs (fun a ha => by exact callF (consF rfl x_nil) (t_is_side (h3 a ha)))
  have f : fit rs.length = true := fit_of (by omega)
  have cv : fCompM false (fVar 0) (tgName 1) (fCall (pureF f_is_side) (fCons (fVar 1) (fNil))) [1] [rowD rs, .und] [] = .ok (.lst (rs.map fun _ => D.bl true)) [] := by
    show (bif fit (rs.map D.int).length then (match compL (tgName 1) tYesF (fCall (pureF f_is_side) (fCons (fVar 1) (fNil))) [rowD rs, .und] (rs.map D.int) [] with
      | .ok xs S2 => Out.ok (D.lst xs) S2
      | _ => Out.bad) else .bad) = _
    rw [List.length_map, f, e]; rfl
  have g1 : ¬ (200 : Int) < rs.length := by omega
  unfold f_need_row fn b_need_row
  show fnEnd false 0 (sIf _ _ _ [rowD rs, .und] []) = _
  have i2 : oLen [rowD rs] [] = some (.int rs.length, []) := by
    show some (D.int (rs.map D.int).length, ([] : Sto)) = _
    rw [List.length_map]
  rw [sIf_no (S' := []) (by
    refine orFF (tnotF (b := true) (valF (opNF0 (consF rfl (consF (by rfl) x_nil)) (by rfl)))) (orFF (valF (op2F (opNF0 (consF rfl x_nil) i2) rfl ?_)) (tnotF (b := true) (valF (opNF0 (consF cv x_nil) (all_true _)))))
    simp [g1])]
  rfl
theorem t_winnerP {vs : List Lv} {rs : List Int} {S : Sto} (h : Form vs) (hr : Row rs) : pureF f_winner [formD vs, rowD rs] S = .ok (oI (playL vs rs).w) S := by
  have hl : lowD 0 (rowD rs) = true := low_ints rs
  have hl2 : lowL 0 [formD vs, rowD rs] = true := by simp only [lowL, low_form', hl]; rfl
  have nm : ∀ S, pureF f_need_match [formD vs, rowD rs] S = .ok .non S := fun S => by
    refine pure_eq hl2 ?_
    unfold f_need_match fn b_need_match
    show fnEnd false 0 (sSeq _ _ [formD vs, rowD rs] []) = _
    rw [sSeq_nx (e' := [formD vs, rowD rs]) (S' := []) (by rw [x_expr, callF (consF rfl x_nil) (t_need_form h)]; rfl)]
    have e : f_need_row [rowD rs] [] = .ok .non [] := by
      have q := t_need_rowP (S := []) hr
      unfold pureF at q
      rw [show lowL 0 [rowD rs] = true from by simp only [lowL, hl]; rfl] at q
      simp only [cond_true] at q
      cases hx : f_need_row [rowD rs] [] with
      | ok d S' => cases S' with
        | nil => rw [hx] at q; simp only at q; cases q; rfl
        | cons => rw [hx] at q; cases q
      | exc c S' => cases S' <;> rw [hx] at q <;> cases q
      | bad => rw [hx] at q; cases q
    rw [x_expr, callF (consF rfl x_nil) e]; rfl
  have p := fun S => t_playedP (rs := rs) (S := S) h
  rw [play_mem h hr.2] at p
  refine pure_eq hl2 ?_
  unfold f_winner fn b_winner
  show fnEnd false 0 (sSeq _ _ [formD vs, rowD rs] []) = _
  rw [sSeq_nx (e' := [formD vs, rowD rs]) (S' := []) (by rw [x_expr, callF (consF rfl (consF rfl x_nil)) (nm _)]; rfl)]
  rw [x_ret, op2F (callF (consF rfl (consF rfl x_nil)) (p _)) rfl (by rfl)]
  exact end_rt rfl
theorem foldL_won {vs : List Lv} {k : Int} : ∀ (rs : List Int) (x : Play), x.w = some k → rs.foldl (stepL vs) x = x
  | [], _, _ => rfl
  | s :: rs, x, h => by
    rw [List.foldl_cons]
    have : stepL vs x s = x := by unfold stepL; rw [h]
    rw [this]; exact foldL_won rs x h
theorem tk20 {vs : List Lv} : ∀ (rs : List Int) (x : Play), x.w = none → ∃ n, n ≤ rs.length ∧ (rs.foldl (stepL vs) x).m = x.m + (n : Int) ∧ (rs.take n).foldl (stepL vs) x = rs.foldl (stepL vs) x ∧ ∀ i, i < n → ((rs.take i).foldl (stepL vs) x).w = none
  | [], x, h => ⟨0, Nat.le_refl _, by simp, rfl, fun i h => by omega⟩
  | s :: rs, x, h => by
    have m1 : (stepL vs x s).m = x.m + 1 := by unfold stepL; rw [h]
    cases hw : (stepL vs x s).w with
    | none =>
      obtain ⟨n, h1, h2, h3, h4⟩ := tk20 rs (stepL vs x s) hw
      refine ⟨n + 1, by simp; omega, by rw [List.foldl_cons, h2, m1]; omega, by rw [List.take_succ_cons, List.foldl_cons, List.foldl_cons, h3], fun i hi => ?_⟩
      cases i with
      | zero => exact h
      | succ i => rw [List.take_succ_cons, List.foldl_cons]; exact h4 i (by omega)
    | some k =>
      have e := foldL_won (vs := vs) rs _ hw
      refine ⟨1, by simp, by rw [List.foldl_cons, e, m1]; rfl, by rw [List.foldl_cons, e]; rfl, fun i hi => ?_⟩
      have : i = 0 := by omega
      subst this; exact h
theorem compL_go {j : Nat} {e : FE} {env : En} {d x : D} {l xs : List D} {S S1 S2 : Sto} (h : e (env.set j d) S = .ok x S1) (h' : compL (tgName j) tYesF e env l S1 = .ok xs S2) : compL (tgName j) tYesF e env (d :: l) S = .ok (x :: xs) S2 := by
  simp only [compL, x_tgName, x_yes, h, h']
theorem ne_loc {n : Nat} {l : List Int} {S : Sto} (hn : S[n]? = some (.lst (l.map D.int))) : oNe (.loc n) (rowD l) S = some (.bl false, S) := by
  obtain ⟨p, q, h1, h2, h3, h4, e⟩ := eqB_pl (S := S) (n := 1) (d := rowD l) (e := rowD l) (plL_ints l) (plL_ints l) (by omega)
  have es := eqB_self (S := S) (n := 1) (d := rowD l) (plL_ints l) (by omega)
  rw [e] at es
  have hd : deref S (.loc n) = rowD l := by
    show (match S[n]? with
      | some (.lst l) => D.lst l
      | _ => .loc n) = _
    rw [hn]
  have sh : ∀ r, D.py (rowD l) = some r → SeqAt.shaped r = true := fun r hr => by
    obtain ⟨r', k1, k2, k3⟩ := pl_ok 1 (rowD l) (plL_ints l)
    rw [hr] at k1; cases k1
    unfold SeqAt.shaped; rw [k2]; simp; omega
  have g := eqB_gen (x := .loc n) (y := rowD l) (S := S) (p := p) (q := q) (by rw [hd]; exact h1) (by show D.py (rowD l) = _; exact h2) (sh p h1) (sh q h2)
  unfold oNe
  rw [g, es]; rfl
theorem low_prsN {n : Nat} : ∀ st : List Pr, lowL n (st.map prD) = true
  | [] => rfl
  | _ :: st => by
    show (true && lowL n (st.map prD)) = true
    rw [low_prsN st]; rfl
abbrev U20 (p q : Int) (row : List Int) (m0 m1 m2 m3 : List D) (X : Sto) : Sto := tw p q (.lst (row.map D.int) :: .lst m0 :: .lst m1 :: .lst m2 :: .lst m3 :: X)
abbrev V20 (p q : Int) (row : List Int) (m0 m1 m2 m3 : List D) (f : List Lv) (ks : List Int) (X : Sto) : Sto := U20 p q row m0 m1 m2 m3 (bdO f 7 :: .lst (ks.map D.int) :: X)
def insB : FS := (sExpr (fMethL mInsert (fVar 6) (fCons (fCon (.int 0)) (fCons (fCon .non) (fNil)))))
theorem t_ins {x0 x1 x2 x3 x4 x5 x7 : D} {i : Nat} {l : List D} {S : Sto} (h : S[i]? = some (.lst l)) (hl : l.length < 16777216) : insB [x0, x1, x2, x3, x4, x5, .loc i, x7, .und, .und, .und] S = .nx [x0, x1, x2, x3, x4, x5, .loc i, x7, .und, .und, .und] (S.set i (.lst (.non :: l))) := by
  have e : fMethL mInsert (fVar 6) (fCons (fCon (.int 0)) (fCons (fCon .non) (fNil))) [x0, x1, x2, x3, x4, x5, .loc i, x7, .und, .und, .und] S = .ok .non (S.set i (.lst (.non :: l))) := by
    unfold fMethL
    show (bif isLs (.loc i) S then outO (match S[i]? with
      | some (.lst l) => bif fitS l.length && (decide ((0 : Int) ≤ 0) && decide ((0 : Int) < 1000)) then some (D.non, S.set i (.lst (l.take (0 : Int).toNat ++ [.non] ++ l.drop (0 : Int).toNat))) else none
      | _ => none) else .bad) = _
    rw [isLs_of h, h]
    simp only [fitS_of hl]
    rfl
  unfold insB
  rw [x_expr, e]; rfl
def ptsB20 : FS := (sExpr (fObjM "point" f_Board_point (fVar 8) (fCons (fVar 9) (fNil))))
theorem t_pts20 {p q : Int} {row : List Int} {m0 m1 m2 m3 : List D} {f : List Lv} {x0 x1 x2 x3 x4 x5 x6 x7 : D} (hf : Form f) : ∀ (l pre : List Int) (z : D), (∀ s ∈ l, s = 0 ∨ s = 1) → (∀ i, i < l.length → (playM f (pre ++ l.take i)).w = none) → pre.length + l.length < 1000 →
    ∃ z', forL (tgName 9) ptsB20 (l.map D.int) [x0, x1, x2, x3, x4, x5, x6, x7, .loc 6, z, .und] (V20 p q row m0 m1 m2 m3 f pre []) = .nx [x0, x1, x2, x3, x4, x5, x6, x7, .loc 6, z', .und] (V20 p q row m0 m1 m2 m3 f (pre ++ l) [])
  | [], pre, z, _, _, _ => ⟨z, by rw [List.append_nil]; rfl⟩
  | s :: l, pre, z, hs, hw, hl => by
    have b : BdAt (V20 p q row m0 m1 m2 m3 f pre []) 6 7 f pre := ⟨rfl, rfl⟩
    have w0 := hw 0 (by simp)
    rw [List.take_zero, List.append_nil] at w0
    have tp := t_point hf b (by simp at hl; omega) (hs s (by simp)) w0
    have e : ptsB20 [x0, x1, x2, x3, x4, x5, x6, x7, .loc 6, .int s, .und] (V20 p q row m0 m1 m2 m3 f pre []) = .nx [x0, x1, x2, x3, x4, x5, x6, x7, .loc 6, .int s, .und] (V20 p q row m0 m1 m2 m3 f (pre ++ [s]) []) := by
      unfold ptsB20
      rw [x_expr, (x_objM (m := "point") (F := f_Board_point) (fo := fVar 8) (fs := fCons (fVar 9) (fNil)) (env := [x0, x1, x2, x3, x4, x5, x6, x7, .loc 6, .int s, .und]) (o := .loc 6) (ds := [.int s]) (S := V20 p q row m0 m1 m2 m3 f pre []) (S1 := V20 p q row m0 m1 m2 m3 f pre []) rfl b.isP rfl), tp]
      rfl
    obtain ⟨z', ih⟩ := t_pts20 (p := p) (q := q) (row := row) (m0 := m0) (m1 := m1) (m2 := m2) (m3 := m3) (x0 := x0) (x1 := x1) (x2 := x2) (x3 := x3) (x4 := x4) (x5 := x5) (x6 := x6) (x7 := x7) hf l (pre ++ [s]) (.int s) (fun t ht => hs t (by simp [ht])) (fun i hi => by
      have := hw (i + 1) (by simp; omega)
      rw [List.take_succ_cons] at this
      rw [List.append_assoc]; exact this) (by simp at hl ⊢; omega)
    refine ⟨z', ?_⟩
    rw [List.map_cons, forL_cons (env1 := [x0, x1, x2, x3, x4, x5, x6, x7, .loc 6, .int s, .und]) rfl, e]
    show forL _ _ _ _ _ = _
    rw [ih, List.append_assoc]; rfl
theorem law_true : ∀ ns : List Int, ns.length ≤ 63 → ∃ S', f_law [.scr (ns.map D.int)] [] = .ok (.bl true) S' := by
  intro ns _
  obtain ⟨f, p1, q1, df, hp, hq, e1⟩ := t_form (ns := ns) (R := []) (p := 0) (q := 0) (by omega) (by omega)
  obtain ⟨rs, p, q, hr, hl, hp, hq, e2⟩ := t_law_rowN (ns := ns) (m := 20) (by omega) (by omega) hp hq
  have hne : f ≠ [] := by rintro rfl; have := df.1; simp at this
  obtain ⟨vs, v, hf⟩ : ∃ vs v, f = vs ++ [v] := ⟨f.dropLast, f.getLast hne, (List.dropLast_concat_getLast hne).symm⟩
  have df' := df
  rw [hf] at df'
  obtain ⟨o, ho, hol, hpt⟩ := t_partingN df'.form (oth_drawn df').form (few_oth df')
  have ff := df.form
  have K1 := t_answersK (n := 1) (S := tw p q [.lst (rs.map D.int)]) df' hr rfl (fun o ho => by
    rcases List.mem_cons.mp ho with rfl | ho
    · rfl
    · rw [List.mem_singleton.mp ho]; exact low_intsN rs) ho hpt
  have plA := pl_ans (rs := rs) (o := o) (f := vs ++ [v])
  have F1 := fun (m0 m1 m2 m3 : List D) (eA : ansO (vs ++ [v]) rs o = [m0, m1, m2, m3]) => t_answersF (n := 1) (S := U20 p q rs (.non :: m0) (.non :: m1) (.non :: m2) (.non :: m3) []) df' hr rfl (fun x hx => by
    have e0 := (List.cons.inj eA).1
    have e1 := (List.cons.inj (List.cons.inj eA).2).1
    have e2 := (List.cons.inj (List.cons.inj (List.cons.inj eA).2).2).1
    have e3 := (List.cons.inj (List.cons.inj (List.cons.inj (List.cons.inj eA).2).2).2).1
    have li : ∀ (n : Nat) (w : List Int), lowO n (.lst (.non :: w.map D.int)) = true := fun n w => by
      show (true && lowL n (w.map D.int)) = true
      rw [low_intsN w]; rfl
    simp only [U20, tw, List.mem_cons, List.not_mem_nil, or_false] at hx
    rcases hx with rfl | rfl | rfl | rfl | rfl | rfl
    · rfl
    · exact low_intsN rs
    · rw [← e0]; exact li _ _
    · rw [← e1]; exact li _ _
    · rw [← e2]; exact li _ _
    · rw [← e3]
      show (true && lowL _ ((playL (vs ++ [v]) rs).st.map prD)) = true
      rw [low_prsN]; rfl) ho hpt
  obtain ⟨m0, m1, m2, m3, eA, h0, h1, h2, h3⟩ : ∃ m0 m1 m2 m3 : List D, ansO (vs ++ [v]) rs o = [m0, m1, m2, m3] ∧ m0.length < 16777216 ∧ m1.length < 16777216 ∧ m2.length < 16777216 ∧ m3.length < 16777216 := by
    refine ⟨_, _, _, _, rfl, ?_, ?_, ?_, ?_⟩
    · rw [List.length_map]
      have : (mpV (vs ++ [v]) (playL (vs ++ [v]) rs)).length ≤ 2 := List.length_filter_le _ _
      omega
    · rw [List.length_map]
      cases hs : surR (vs ++ [v]) with
      | none => simp
      | some w => have := surR_len df'.form df'.all hs; simp; omega
    · rw [List.length_map]
      cases o with
      | none => simp
      | some w => exact hol w rfl
    · rw [List.length_map, playL_len]; have := df'.2.1; omega
  have F1 := F1 m0 m1 m2 m3 eA
  rw [eA] at K1 F1 plA
  rw [← hf] at K1 F1
  have K1 : f__law_answersK [formD f, .loc 1] (tw p q [.lst (rs.map D.int)]) = .ok (.lst [.loc 2, .loc 3, .loc 4, .loc 5]) (U20 p q rs m0 m1 m2 m3 []) := K1
  have F1 : f__law_answers [formD f, .loc 1] (U20 p q rs (.non :: m0) (.non :: m1) (.non :: m2) (.non :: m3) []) = .ok (.lst [.lst m0, .lst m1, .lst m2, .lst m3]) (U20 p q rs (.non :: m0) (.non :: m1) (.non :: m2) (.non :: m3) []) := F1
  have plA : pl 4 (.lst [.lst m0, .lst m1, .lst m2, .lst m3]) = true := plA
  clear eA
  clear ho hpt hol df' hf
  obtain ⟨n, n1, n2, n3, n4⟩ := tk20 (vs := f) rs (start f) rfl
  have n2 : (playL f rs).m = n := by rw [show (playL f rs).m = (start f).m + (n : Int) from n2]; show (0 : Int) + n = n; omega
  have n3 : playL f (rs.take n) = playL f rs := n3
  have tr : ∀ r ∈ rs.take n, r = 0 ∨ r = 1 := fun r h => hr.2 r (List.mem_of_mem_take h)
  have pm : playM f (rs.take n) = playL f rs := (play_mem ff tr).trans n3
  have rl : rs.length < 20 := by omega
  have pl := fun S => t_law_play (S := S) (rs := rs) ff hr.2
  obtain ⟨z', ep⟩ := t_pts20 (p := p) (q := q) (row := rs) (m0 := .non :: m0) (m1 := .non :: m1) (m2 := .non :: m2) (m3 := .non :: m3) (x0 := .scr (ns.map D.int)) (x1 := .loc 0) (x2 := formD f) (x3 := .loc 1) (x4 := rowD rs) (x5 := .lst [.loc 2, .loc 3, .loc 4, .loc 5]) (x6 := .loc 5) (x7 := .lst [.lst m0, .lst m1, .lst m2, .lst m3]) ff (rs.take n) [] .und tr (fun i hi => by
    have hi' : i < n := by rw [List.length_take] at hi; omega
    have w := n4 i hi'
    rw [List.nil_append, List.take_take, Nat.min_eq_left (by omega)]
    have := play_mem ff (rs := rs.take i) (fun r h => hr.2 r (List.mem_of_mem_take h))
    rw [this]; exact w) (by simp; omega)
  rw [List.nil_append] at ep
  generalize hks : rs.take n = ks at ep pm tr n3
  have kl : ks.length = n := by rw [← hks, List.length_take]; omega
  generalize hM0 : D.non :: m0 = M0 at F1 ep
  generalize hM1 : D.non :: m1 = M1 at F1 ep
  generalize hM2 : D.non :: m2 = M2 at F1 ep
  generalize hM3 : D.non :: m3 = M3 at F1 ep
  -- the steps
  have s1 : sAsg 1 (fLst true (fCons (fCon (.int 0)) (fCons (fCon (.int 0)) (fNil)))) [.scr (ns.map D.int), .und, .und, .und, .und, .und, .und, .und, .und, .und, .und] [] = .nx [.scr (ns.map D.int), .loc 0, .und, .und, .und, .und, .und, .und, .und, .und, .und] (tw 0 0 []) := rfl
  have s2 : sAsg 2 (fCall f__law_form (fCons (fVar 0) (fCons (fVar 1) (fNil)))) [.scr (ns.map D.int), .loc 0, .und, .und, .und, .und, .und, .und, .und, .und, .und] (tw 0 0 []) = .nx [.scr (ns.map D.int), .loc 0, formD f, .und, .und, .und, .und, .und, .und, .und, .und] (tw p1 q1 []) := asgF (callF (consF rfl (consF rfl x_nil)) e1)
  have s3 : sAsg 3 (fCall f__law_row (fCons (fVar 0) (fCons (fVar 1) (fCons (fCon (.int 20)) (fNil))))) [.scr (ns.map D.int), .loc 0, formD f, .und, .und, .und, .und, .und, .und, .und, .und] (tw p1 q1 []) = .nx [.scr (ns.map D.int), .loc 0, formD f, .loc 1, .und, .und, .und, .und, .und, .und, .und] (tw p q [.lst (rs.map D.int)]) := asgF (callF (consF rfl (consF rfl (consF rfl x_nil))) e2)
  have s4 : sPar2 4 5 (fCons (fOpN (oList false) (fCons (fVar 3) (fNil))) (fCons (fCall f__law_answersK (fCons (fVar 2) (fCons (fVar 3) (fNil)))) (fNil))) [.scr (ns.map D.int), .loc 0, formD f, .loc 1, .und, .und, .und, .und, .und, .und, .und] (tw p q [.lst (rs.map D.int)]) = .nx [.scr (ns.map D.int), .loc 0, formD f, .loc 1, rowD rs, .lst [.loc 2, .loc 3, .loc 4, .loc 5], .und, .und, .und, .und, .und] (U20 p q rs m0 m1 m2 m3 []) := by
    have l1 : fOpN (oList false) (fCons (fVar 3) (fNil)) [.scr (ns.map D.int), .loc 0, formD f, .loc 1, .und, .und, .und, .und, .und, .und, .und] (tw p q [.lst (rs.map D.int)]) = .ok (rowD rs) (tw p q [.lst (rs.map D.int)]) := by
      refine opNF0 (consF rfl x_nil) ?_
      show mkL false (rs.map D.int) _ = _
      rw [x_mkF, fit_of (by simp; omega)]; rfl
    rw [x_par2, consF l1 (consF (callF (consF rfl (consF rfl x_nil)) K1) x_nil)]; rfl
  have ol : ∀ (i : Nat) (l : List D), (U20 p q rs m0 m1 m2 m3 [])[i]? = some (.lst l) → l.length < 16777216 → fOpN (oList false) (fCons (fVar 6) (fNil)) [.scr (ns.map D.int), .loc 0, formD f, .loc 1, rowD rs, .lst [.loc 2, .loc 3, .loc 4, .loc 5], .loc i, .und, .und, .und, .und] (U20 p q rs m0 m1 m2 m3 []) = .ok (.lst l) (U20 p q rs m0 m1 m2 m3 []) := fun i l hi hl => by
    refine opNF0 (consF rfl x_nil) ?_
    show (match lsR (.loc i) (U20 p q rs m0 m1 m2 m3 []) with
      | some l => mkL false l (U20 p q rs m0 m1 m2 m3 [])
      | none => none) = _
    rw [lsR_at hi]
    show mkL false l _ = _
    rw [x_mkF, fit_of (by omega)]; rfl
  have s5 : sAsg 7 (fComp false (iSq (fVar 5)) (tgName 6) (tYesF) (fOpN (oList false) (fCons (fVar 6) (fNil))) [6]) [.scr (ns.map D.int), .loc 0, formD f, .loc 1, rowD rs, .lst [.loc 2, .loc 3, .loc 4, .loc 5], .und, .und, .und, .und, .und] (U20 p q rs m0 m1 m2 m3 []) = .nx [.scr (ns.map D.int), .loc 0, formD f, .loc 1, rowD rs, .lst [.loc 2, .loc 3, .loc 4, .loc 5], .und, .lst [.lst m0, .lst m1, .lst m2, .lst m3], .und, .und, .und] (U20 p q rs m0 m1 m2 m3 []) := by
    refine asgF ?_
    have c : compL (tgName 6) tYesF (fOpN (oList false) (fCons (fVar 6) (fNil))) [.scr (ns.map D.int), .loc 0, formD f, .loc 1, rowD rs, .lst [.loc 2, .loc 3, .loc 4, .loc 5], .und, .und, .und, .und, .und] [.loc 2, .loc 3, .loc 4, .loc 5] (U20 p q rs m0 m1 m2 m3 []) = .ok [.lst m0, .lst m1, .lst m2, .lst m3] (U20 p q rs m0 m1 m2 m3 []) :=
      compL_go (ol 2 m0 rfl h0) (compL_go (ol 3 m1 rfl h1) (compL_go (ol 4 m2 rfl h2) (compL_go (ol 5 m3 rfl h3) rfl)))
    show (match compL (tgName 6) tYesF (fOpN (oList false) (fCons (fVar 6) (fNil))) [.scr (ns.map D.int), .loc 0, formD f, .loc 1, rowD rs, .lst [.loc 2, .loc 3, .loc 4, .loc 5], .und, .und, .und, .und, .und] [.loc 2, .loc 3, .loc 4, .loc 5] (U20 p q rs m0 m1 m2 m3 []) with
      | .ok xs S2 => Out.ok (D.lst xs) S2
      | _ => Out.bad) = _
    rw [c]
  have s6 : sFor (iSq (fVar 5)) (tgName 6) insB [.scr (ns.map D.int), .loc 0, formD f, .loc 1, rowD rs, .lst [.loc 2, .loc 3, .loc 4, .loc 5], .und, .lst [.lst m0, .lst m1, .lst m2, .lst m3], .und, .und, .und] (U20 p q rs m0 m1 m2 m3 []) = .nx [.scr (ns.map D.int), .loc 0, formD f, .loc 1, rowD rs, .lst [.loc 2, .loc 3, .loc 4, .loc 5], .loc 5, .lst [.lst m0, .lst m1, .lst m2, .lst m3], .und, .und, .und] (U20 p q rs M0 M1 M2 M3 []) := by
    show forL (tgName 6) insB [.loc 2, .loc 3, .loc 4, .loc 5] _ _ = _
    rw [forL_cons (env1 := [.scr (ns.map D.int), .loc 0, formD f, .loc 1, rowD rs, .lst [.loc 2, .loc 3, .loc 4, .loc 5], .loc 2, .lst [.lst m0, .lst m1, .lst m2, .lst m3], .und, .und, .und]) rfl, t_ins (l := m0) rfl h0]
    show forL (tgName 6) insB [.loc 3, .loc 4, .loc 5] _ (U20 p q rs (.non :: m0) m1 m2 m3 []) = _
    rw [forL_cons (env1 := [.scr (ns.map D.int), .loc 0, formD f, .loc 1, rowD rs, .lst [.loc 2, .loc 3, .loc 4, .loc 5], .loc 3, .lst [.lst m0, .lst m1, .lst m2, .lst m3], .und, .und, .und]) rfl, t_ins (l := m1) rfl h1]
    show forL (tgName 6) insB [.loc 4, .loc 5] _ (U20 p q rs (.non :: m0) (.non :: m1) m2 m3 []) = _
    rw [forL_cons (env1 := [.scr (ns.map D.int), .loc 0, formD f, .loc 1, rowD rs, .lst [.loc 2, .loc 3, .loc 4, .loc 5], .loc 4, .lst [.lst m0, .lst m1, .lst m2, .lst m3], .und, .und, .und]) rfl, t_ins (l := m2) rfl h2]
    show forL (tgName 6) insB [.loc 5] _ (U20 p q rs (.non :: m0) (.non :: m1) (.non :: m2) m3 []) = _
    rw [forL_cons (env1 := [.scr (ns.map D.int), .loc 0, formD f, .loc 1, rowD rs, .lst [.loc 2, .loc 3, .loc 4, .loc 5], .loc 5, .lst [.lst m0, .lst m1, .lst m2, .lst m3], .und, .und, .und]) rfl, t_ins (l := m3) rfl h3]
    show SR.nx _ (U20 p q rs (.non :: m0) (.non :: m1) (.non :: m2) (.non :: m3) []) = _
    rw [hM0, hM1, hM2, hM3]
  have s7 : sIf (Sf.tOr (tVal (fOp2 oNe (fCall f__law_answers (fCons (fVar 2) (fCons (fVar 3) (fNil)))) (fVar 7))) (tVal (fOp2 oNe (fVar 3) (fVar 4)))) (sRet (fCon (.bl false))) (sSkip) [.scr (ns.map D.int), .loc 0, formD f, .loc 1, rowD rs, .lst [.loc 2, .loc 3, .loc 4, .loc 5], .loc 5, .lst [.lst m0, .lst m1, .lst m2, .lst m3], .und, .und, .und] (U20 p q rs M0 M1 M2 M3 []) = .nx [.scr (ns.map D.int), .loc 0, formD f, .loc 1, rowD rs, .lst [.loc 2, .loc 3, .loc 4, .loc 5], .loc 5, .lst [.lst m0, .lst m1, .lst m2, .lst m3], .und, .und, .und] (U20 p q rs M0 M1 M2 M3 []) := by
    rw [sIf_no (orFF (valF (op2F (callF (consF rfl (consF rfl x_nil)) F1) rfl (oNe_self plA (by omega)))) (valF (op2F rfl rfl (ne_loc rfl))))]; rfl
  have s8 : sAsg 8 (fMake f_Board___init__ (fCons (fVar 2) (fNil))) [.scr (ns.map D.int), .loc 0, formD f, .loc 1, rowD rs, .lst [.loc 2, .loc 3, .loc 4, .loc 5], .loc 5, .lst [.lst m0, .lst m1, .lst m2, .lst m3], .und, .und, .und] (U20 p q rs M0 M1 M2 M3 []) = .nx [.scr (ns.map D.int), .loc 0, formD f, .loc 1, rowD rs, .lst [.loc 2, .loc 3, .loc 4, .loc 5], .loc 5, .lst [.lst m0, .lst m1, .lst m2, .lst m3], .loc 6, .und, .und] (V20 p q rs M0 M1 M2 M3 f [] []) := by
    have mk := t_make (vs := f) (S := U20 p q rs M0 M1 M2 M3 []) (S' := U20 p q rs M0 M1 M2 M3 []) (fs := fCons (fVar 2) (fNil)) (env := [.scr (ns.map D.int), .loc 0, formD f, .loc 1, rowD rs, .lst [.loc 2, .loc 3, .loc 4, .loc 5], .loc 5, .lst [.lst m0, .lst m1, .lst m2, .lst m3], .und, .und, .und]) ff rfl
    exact asgF mk
  have s9 : sFor (iSq (fCut false (fVar 3) (fNoPart) (fPart (fOp2 oIx (fCall f__law_play (fCons (fVar 2) (fCons (fVar 3) (fNil)))) (fCon (.int 1)))))) (tgName 9) ptsB20 [.scr (ns.map D.int), .loc 0, formD f, .loc 1, rowD rs, .lst [.loc 2, .loc 3, .loc 4, .loc 5], .loc 5, .lst [.lst m0, .lst m1, .lst m2, .lst m3], .loc 6, .und, .und] (V20 p q rs M0 M1 M2 M3 f [] []) = .nx [.scr (ns.map D.int), .loc 0, formD f, .loc 1, rowD rs, .lst [.loc 2, .loc 3, .loc 4, .loc 5], .loc 5, .lst [.lst m0, .lst m1, .lst m2, .lst m3], .loc 6, z', .und] (V20 p q rs M0 M1 M2 M3 f ks []) := by
    have lp := t_law_playV (vs := f) (rs := rs) (row := .loc 1) (S := V20 p q rs M0 M1 M2 M3 f [] []) ff hr.2 (.inr ⟨1, rfl, rfl⟩)
    rw [n2] at lp
    have ct := cut_to (l := rs) (k := n) (S := V20 p q rs M0 M1 M2 M3 f [] []) (by omega) (by omega) (by omega)
    rw [Int.toNat_natCast, hks] at ct
    have it : iSq (fCut false (fVar 3) (fNoPart) (fPart (fOp2 oIx (fCall f__law_play (fCons (fVar 2) (fCons (fVar 3) (fNil)))) (fCon (.int 1))))) [.scr (ns.map D.int), .loc 0, formD f, .loc 1, rowD rs, .lst [.loc 2, .loc 3, .loc 4, .loc 5], .loc 5, .lst [.lst m0, .lst m1, .lst m2, .lst m3], .loc 6, .und, .und] (V20 p q rs M0 M1 M2 M3 f [] []) = .ok (ks.map D.int) (V20 p q rs M0 M1 M2 M3 f [] []) := by
      have cu : fCut false (fVar 3) (fNoPart) (fPart (fOp2 oIx (fCall f__law_play (fCons (fVar 2) (fCons (fVar 3) (fNil)))) (fCon (.int 1)))) [.scr (ns.map D.int), .loc 0, formD f, .loc 1, rowD rs, .lst [.loc 2, .loc 3, .loc 4, .loc 5], .loc 5, .lst [.lst m0, .lst m1, .lst m2, .lst m3], .loc 6, .und, .und] (V20 p q rs M0 M1 M2 M3 f [] []) = .ok (rowD ks) (V20 p q rs M0 M1 M2 M3 f [] []) := by
        have v3 : fVar 3 [.scr (ns.map D.int), .loc 0, formD f, .loc 1, rowD rs, .lst [.loc 2, .loc 3, .loc 4, .loc 5], .loc 5, .lst [.lst m0, .lst m1, .lst m2, .lst m3], .loc 6, .und, .und] (V20 p q rs M0 M1 M2 M3 f [] []) = .ok (.loc 1) (V20 p q rs M0 M1 M2 M3 f [] []) := rfl
        rw [x_cut, v3, x_bind, x_nopart, x_bind, x_part, op2F (x := .tup [oI (playL f rs).w, .int n, stD (playL f rs).st]) (z := .int n) (S3 := V20 p q rs M0 M1 M2 M3 f [] []) (callF (consF rfl (consF rfl x_nil)) lp) rfl rfl, x_bind]
        show outO (oCut false (rowD rs) none (some (n : Int)) (V20 p q rs M0 M1 M2 M3 f [] [])) = _
        rw [ct]; rfl
      unfold iSq
      rw [cu]; rfl
    rw [x_for_, it]
    exact ep
  have b1 : BdAt (V20 p q rs M0 M1 M2 M3 f ks []) 6 7 f ks := ⟨rfl, rfl⟩
  have s10 : sAsg 10 (fObjM "copy" f_Board_copy (fVar 8) fNil) [.scr (ns.map D.int), .loc 0, formD f, .loc 1, rowD rs, .lst [.loc 2, .loc 3, .loc 4, .loc 5], .loc 5, .lst [.lst m0, .lst m1, .lst m2, .lst m3], .loc 6, z', .und] (V20 p q rs M0 M1 M2 M3 f ks []) = .nx [.scr (ns.map D.int), .loc 0, formD f, .loc 1, rowD rs, .lst [.loc 2, .loc 3, .loc 4, .loc 5], .loc 5, .lst [.lst m0, .lst m1, .lst m2, .lst m3], .loc 6, z', .loc 8] (V20 p q rs M0 M1 M2 M3 f ks [bdO f 10, .lst [], .lst (ks.map D.int)]) := by
    have cp := t_copy ff b1 (by omega)
    refine asgF (x := .loc 8) ?_
    have ic : isObj "copy" (.loc 6) (V20 p q rs M0 M1 M2 M3 f ks []) = true := by unfold isObj; simp only [b1.ob]; rfl
    exact (x_objM (m := "copy") (F := f_Board_copy) (fo := fVar 8) (fs := fNil) (env := [.scr (ns.map D.int), .loc 0, formD f, .loc 1, rowD rs, .lst [.loc 2, .loc 3, .loc 4, .loc 5], .loc 5, .lst [.lst m0, .lst m1, .lst m2, .lst m3], .loc 6, z', .und]) (o := .loc 6) (ds := []) (S := V20 p q rs M0 M1 M2 M3 f ks []) (S1 := V20 p q rs M0 M1 M2 M3 f ks []) rfl ic rfl).trans cp
  have s11 : sExpr (fMethL mAppend (fVar 3) (fCons (fCon (.int 0)) (fNil))) [.scr (ns.map D.int), .loc 0, formD f, .loc 1, rowD rs, .lst [.loc 2, .loc 3, .loc 4, .loc 5], .loc 5, .lst [.lst m0, .lst m1, .lst m2, .lst m3], .loc 6, z', .loc 8] (V20 p q rs M0 M1 M2 M3 f ks [bdO f 10, .lst [], .lst (ks.map D.int)]) = .nx [.scr (ns.map D.int), .loc 0, formD f, .loc 1, rowD rs, .lst [.loc 2, .loc 3, .loc 4, .loc 5], .loc 5, .lst [.lst m0, .lst m1, .lst m2, .lst m3], .loc 6, z', .loc 8] (V20 p q (rs ++ [0]) M0 M1 M2 M3 f ks [bdO f 10, .lst [], .lst (ks.map D.int)]) := by
    have e : fMethL mAppend (fVar 3) (fCons (fCon (.int 0)) (fNil)) [.scr (ns.map D.int), .loc 0, formD f, .loc 1, rowD rs, .lst [.loc 2, .loc 3, .loc 4, .loc 5], .loc 5, .lst [.lst m0, .lst m1, .lst m2, .lst m3], .loc 6, z', .loc 8] (V20 p q rs M0 M1 M2 M3 f ks [bdO f 10, .lst [], .lst (ks.map D.int)]) = .ok .non (V20 p q (rs ++ [0]) M0 M1 M2 M3 f ks [bdO f 10, .lst [], .lst (ks.map D.int)]) := by
      unfold fMethL
      show outO (bif fitS (rs.map D.int).length then some (D.non, tw p q (.lst (rs.map D.int ++ [.int 0]) :: .lst M0 :: .lst M1 :: .lst M2 :: .lst M3 :: bdO f 7 :: .lst (ks.map D.int) :: [bdO f 10, .lst [], .lst (ks.map D.int)])) else none) = _
      rw [fitS_of (by rw [List.length_map]; omega)]
      show Out.ok D.non _ = _
      unfold V20 U20
      rw [List.map_append]; rfl
    rw [x_expr, e]; rfl
  have c1 : BdAt (V20 p q (rs ++ [0]) M0 M1 M2 M3 f ks [bdO f 10, .lst [], .lst (ks.map D.int)]) 6 7 f ks := ⟨rfl, rfl⟩
  have c2 : BdAt (V20 p q (rs ++ [0]) M0 M1 M2 M3 f ks [bdO f 10, .lst [], .lst (ks.map D.int)]) 8 10 f ks := ⟨rfl, rfl⟩
  have sc := t_bscore ff c2
  have wi := t_winner ff c1
  rw [pm] at sc wi
  have s12 : sIf (Sf.tOr (tVal (fOp2 oNe (fObjM "score" f_Board_score (fVar 10) fNil) (fOp2 oIx (fCall (pureF f__law_play) (fCons (fVar 2) (fCons (fVar 4) (fNil)))) (fCon (.int 2))))) (tVal (fOp2 oNe (fObjM "winner" f_Board_winner (fVar 8) fNil) (fOp2 oIx (fCall (pureF f__law_play) (fCons (fVar 2) (fCons (fVar 4) (fNil)))) (fCon (.int 0)))))) (sRet (fCon (.bl false))) (sSkip) [.scr (ns.map D.int), .loc 0, formD f, .loc 1, rowD rs, .lst [.loc 2, .loc 3, .loc 4, .loc 5], .loc 5, .lst [.lst m0, .lst m1, .lst m2, .lst m3], .loc 6, z', .loc 8] (V20 p q (rs ++ [0]) M0 M1 M2 M3 f ks [bdO f 10, .lst [], .lst (ks.map D.int)]) = .nx [.scr (ns.map D.int), .loc 0, formD f, .loc 1, rowD rs, .lst [.loc 2, .loc 3, .loc 4, .loc 5], .loc 5, .lst [.lst m0, .lst m1, .lst m2, .lst m3], .loc 6, z', .loc 8] (V20 p q (rs ++ [0]) M0 M1 M2 M3 f ks [bdO f 10, .lst [], .lst (ks.map D.int)]) := by
    have o1 := x_objM (m := "score") (F := f_Board_score) (fo := fVar 10) (fs := fNil) (env := [.scr (ns.map D.int), .loc 0, formD f, .loc 1, rowD rs, .lst [.loc 2, .loc 3, .loc 4, .loc 5], .loc 5, .lst [.lst m0, .lst m1, .lst m2, .lst m3], .loc 6, z', .loc 8]) (o := .loc 8) (ds := []) (S := V20 p q (rs ++ [0]) M0 M1 M2 M3 f ks [bdO f 10, .lst [], .lst (ks.map D.int)]) (S1 := V20 p q (rs ++ [0]) M0 M1 M2 M3 f ks [bdO f 10, .lst [], .lst (ks.map D.int)]) rfl c2.isS rfl
    have o2 := x_objM (m := "winner") (F := f_Board_winner) (fo := fVar 8) (fs := fNil) (env := [.scr (ns.map D.int), .loc 0, formD f, .loc 1, rowD rs, .lst [.loc 2, .loc 3, .loc 4, .loc 5], .loc 5, .lst [.lst m0, .lst m1, .lst m2, .lst m3], .loc 6, z', .loc 8]) (o := .loc 6) (ds := []) (S := V20 p q (rs ++ [0]) M0 M1 M2 M3 f ks [bdO f 10, .lst [], .lst (ks.map D.int)]) (S1 := V20 p q (rs ++ [0]) M0 M1 M2 M3 f ks [bdO f 10, .lst [], .lst (ks.map D.int)]) rfl c1.isW rfl
    have y1 : oNe (stD (playL f rs).st) (stD (playL f rs).st) (V20 p q (rs ++ [0]) M0 M1 M2 M3 f ks [bdO f 10, .lst [], .lst (ks.map D.int)]) = some (.bl false, V20 p q (rs ++ [0]) M0 M1 M2 M3 f ks [bdO f 10, .lst [], .lst (ks.map D.int)]) := oNe_self (n := 2) (by show plL 1 _ = true; exact pl_st _) (by omega)
    have y2 : oNe (oI (playL f rs).w) (oI (playL f rs).w) (V20 p q (rs ++ [0]) M0 M1 M2 M3 f ks [bdO f 10, .lst [], .lst (ks.map D.int)]) = some (.bl false, V20 p q (rs ++ [0]) M0 M1 M2 M3 f ks [bdO f 10, .lst [], .lst (ks.map D.int)]) := by rw [neOI, decide_eq_true rfl]; rfl
    rw [sIf_no (orFF (valF (op2F (o1.trans sc) (op2F (callF (consF rfl (consF rfl x_nil)) (pl _)) rfl rfl) y1)) (valF (op2F (o2.trans wi) (op2F (callF (consF rfl (consF rfl x_nil)) (pl _)) rfl rfl) y2)))]; rfl
  have s13 : ∃ X, sIf (tVal (fOp2 oGt (fLenO f_Board___len__ (fVar 10)) (fCon (.int 0)))) (sExpr (fObjM "undo" f_Board_undo (fVar 10) fNil)) (sSkip) [.scr (ns.map D.int), .loc 0, formD f, .loc 1, rowD rs, .lst [.loc 2, .loc 3, .loc 4, .loc 5], .loc 5, .lst [.lst m0, .lst m1, .lst m2, .lst m3], .loc 6, z', .loc 8] (V20 p q (rs ++ [0]) M0 M1 M2 M3 f ks [bdO f 10, .lst [], .lst (ks.map D.int)]) = .nx [.scr (ns.map D.int), .loc 0, formD f, .loc 1, rowD rs, .lst [.loc 2, .loc 3, .loc 4, .loc 5], .loc 5, .lst [.lst m0, .lst m1, .lst m2, .lst m3], .loc 6, z', .loc 8] (V20 p q (rs ++ [0]) M0 M1 M2 M3 f ks X) := by
    have ln := x_lenO (F := f_Board___len__) (fo := fVar 10) (env := [.scr (ns.map D.int), .loc 0, formD f, .loc 1, rowD rs, .lst [.loc 2, .loc 3, .loc 4, .loc 5], .loc 5, .lst [.lst m0, .lst m1, .lst m2, .lst m3], .loc 6, z', .loc 8]) (o := .loc 8) (k := ks.length) (S := V20 p q (rs ++ [0]) M0 M1 M2 M3 f ks [bdO f 10, .lst [], .lst (ks.map D.int)]) rfl c2.isL (t_blen c2) (by omega)
    have tt : tVal (fOp2 oGt (fLenO f_Board___len__ (fVar 10)) (fCon (.int 0))) [.scr (ns.map D.int), .loc 0, formD f, .loc 1, rowD rs, .lst [.loc 2, .loc 3, .loc 4, .loc 5], .loc 5, .lst [.lst m0, .lst m1, .lst m2, .lst m3], .loc 6, z', .loc 8] (V20 p q (rs ++ [0]) M0 M1 M2 M3 f ks [bdO f 10, .lst [], .lst (ks.map D.int)]) = .ok (decide ((0 : Int) < ks.length)) (V20 p q (rs ++ [0]) M0 M1 M2 M3 f ks [bdO f 10, .lst [], .lst (ks.map D.int)]) := valF (op2F ln rfl (by simp))
    rcases Nat.eq_zero_or_pos ks.length with h | h
    · rw [decide_eq_false (by omega)] at tt
      exact ⟨_, by rw [sIf_no tt]; rfl⟩
    · rw [decide_eq_true (by omega)] at tt
      have kne : ks ≠ [] := List.length_pos_iff.mp h
      obtain ⟨ds, s, hds⟩ : ∃ ds s, ks = ds ++ [s] := ⟨ks.dropLast, ks.getLast kne, (List.dropLast_concat_getLast kne).symm⟩
      have c3 : BdAt (V20 p q (rs ++ [0]) M0 M1 M2 M3 f ks [bdO f 10, .lst [], .lst (ks.map D.int)]) 8 10 f (ds ++ [s]) := by rw [← hds]; exact c2
      have un := t_undo ff c3
      refine ⟨[bdO f 10, .lst [], .lst (ds.map D.int)], ?_⟩
      rw [sIf_yes tt, x_expr, x_objM (m := "undo") (F := f_Board_undo) (fo := fVar 10) (fs := fNil) (env := [.scr (ns.map D.int), .loc 0, formD f, .loc 1, rowD rs, .lst [.loc 2, .loc 3, .loc 4, .loc 5], .loc 5, .lst [.lst m0, .lst m1, .lst m2, .lst m3], .loc 6, z', .loc 8]) (o := .loc 8) (ds := []) (S := V20 p q (rs ++ [0]) M0 M1 M2 M3 f ks [bdO f 10, .lst [], .lst (ks.map D.int)]) (S1 := V20 p q (rs ++ [0]) M0 M1 M2 M3 f ks [bdO f 10, .lst [], .lst (ks.map D.int)]) rfl c3.isU rfl, un]
      rfl
  obtain ⟨X, s13⟩ := s13
  have d1 : BdAt (V20 p q (rs ++ [0]) M0 M1 M2 M3 f ks X) 6 7 f ks := ⟨rfl, rfl⟩
  have wi := t_winner ff d1
  rw [pm] at wi
  have wo := x_objM (m := "winner") (F := f_Board_winner) (fo := fVar 8) (fs := fNil) (env := [.scr (ns.map D.int), .loc 0, formD f, .loc 1, rowD rs, .lst [.loc 2, .loc 3, .loc 4, .loc 5], .loc 5, .lst [.lst m0, .lst m1, .lst m2, .lst m3], .loc 6, z', .loc 8]) (o := .loc 6) (ds := []) (S := V20 p q (rs ++ [0]) M0 M1 M2 M3 f ks X) (S1 := V20 p q (rs ++ [0]) M0 M1 M2 M3 f ks X) rfl d1.isW rfl
  have ln := x_lenO (F := f_Board___len__) (fo := fVar 8) (env := [.scr (ns.map D.int), .loc 0, formD f, .loc 1, rowD rs, .lst [.loc 2, .loc 3, .loc 4, .loc 5], .loc 5, .lst [.lst m0, .lst m1, .lst m2, .lst m3], .loc 6, z', .loc 8]) (o := .loc 6) (k := ks.length) (S := V20 p q (rs ++ [0]) M0 M1 M2 M3 f ks X) rfl d1.isL (t_blen d1) (by omega)
  have pl2 := pl (V20 p q (rs ++ [0]) M0 M1 M2 M3 f ks X)
  rw [n2] at pl2
  rw [kl] at ln
  have y3 : oEq (oI (playL f rs).w) (oI (playL f rs).w) (V20 p q (rs ++ [0]) M0 M1 M2 M3 f ks X) = some (.bl true, V20 p q (rs ++ [0]) M0 M1 M2 M3 f ks X) := oEq_self (n := 1) pl_oI (by omega)
  have y4 : oEq (.int n) (.int n) (V20 p q (rs ++ [0]) M0 M1 M2 M3 f ks X) = some (.bl true, V20 p q (rs ++ [0]) M0 M1 M2 M3 f ks X) := oEq_self (n := 0) rfl (by omega)
  refine ⟨[], ?_⟩
  unfold f_law fn b_law
  change fnEnd false 0 (sSeq _ (sSeq _ (sSeq _ (sSeq _ (sSeq _ (sSeq (sFor _ _ insB) (sSeq _ (sSeq _ (sSeq (sFor _ _ ptsB20) _)))))))) [.scr (ns.map D.int), .und, .und, .und, .und, .und, .und, .und, .und, .und, .und] []) = _
  rw [sSeq_nx s1, sSeq_nx s2, sSeq_nx s3, sSeq_nx s4, sSeq_nx s5, sSeq_nx s6, sSeq_nx s7, sSeq_nx s8, sSeq_nx s9, sSeq_nx s10, sSeq_nx s11, sSeq_nx s12, sSeq_nx s13]
  rw [x_ret, fandT (op2F (wo.trans wi) (callF (consF rfl (consF rfl x_nil)) (t_winnerP ff hr)) y3) (op2F ln (op2F (callF (consF rfl (consF rfl x_nil)) pl2) rfl rfl) y4)]
  exact end_pl (n := 0) rfl (by omega)

end Sf
end

section
set_option Elab.async false
set_option maxRecDepth 100000
set_option maxHeartbeats 4000000
namespace Sf
open PySem PySem.Spec PyProof.Rows L2
def top (i : Nat) : Stmt := PySem.Challenge.pw_scoreforms_k20_whole_copies.main.body.getD i (.Pass ⟨0, 0, 0, 0⟩)
structure TX (mg : Str → Option Value) : Prop where
  n_all : mg "all" = none
  n_bool : mg "bool" = none
  n_enumerate : mg "enumerate" = none
  n_int : mg "int" = none
  n_isinstance : mg "isinstance" = none
  n_len : mg "len" = none
  n_list : mg "list" = none
  n_max : mg "max" = none
  n_min : mg "min" = none
  n_range : mg "range" = none
  n_sum : mg "sum" = none
  n_tuple : mg "tuple" = none
  n_zip : mg "zip" = none
  c_TARGET : ∃ t, mg "TARGET" = some (.int 5 t)
  c_LEAD : ∃ t, mg "LEAD" = some (.int 3 t)
  c_CAP : ∃ t, mg "CAP" = some (.int 9 t)
  c_LEVELS : ∃ t, mg "LEVELS" = some (.int 3 t)
  c_POINTS : ∃ t, mg "POINTS" = some (.int 200 t)
section
variable {P : Program} {w : World} {K : PySem.W.Frag} {mg : Str → Option Value} {base : Heap} {xm : XM}
abbrev s_is_count : Stmt := top 13
theorem sc_is_count : FnScope ["value", "least", "most"] ["value", "least", "most"] (defScope s_is_count) := ⟨rfl, rfl, rfl, by decide +kernel, rfl, by decide +kernel, by decide +kernel⟩
theorem ok_is_count {f : Addr} {fd : FuncData} (F : Fun K "is_count" "is_count" s_is_count f fd) (T : TX mg) : FnOk P w K mg base (L2.CX P w) 1 f fd ["value", "least", "most"] (spOf ⟨P, w, K⟩ xm 3 f_is_count) :=
  fn_ok (N := ["value", "least", "most"]) (m := false) (b := b_is_count) xm F sc_is_count fun cdv A outer s H E W hr tk =>
    ss_one (ss_ret (se_and (se_callB callr_isa ok_isa (sa_cons (se_var (pv 0)) (sa_cons (se_ty T.n_int bt_int) (sa_nil))) rfl T.n_isinstance bt_isinstance) (se_and (se_not (se_callB callr_isa ok_isa (sa_cons (se_var (pv 0)) (sa_cons (se_ty T.n_bool bt_bool) (sa_nil))) rfl T.n_isinstance bt_isinstance)) (se_one (se_chain op_le op_le (se_var (pv 1)) (se_var (pv 0)) (se_var (pv 2)))))))
abbrev s_round_winner : Stmt := top 21
theorem sc_round_winner : FnScope ["level", "pair", "target", "lead", "cap", "side"] ["level", "pair"] (defScope s_round_winner) := ⟨rfl, rfl, rfl, by decide +kernel, rfl, by decide +kernel, by decide +kernel⟩
theorem ok_round_winner {f : Addr} {fd : FuncData} (F : Fun K "round_winner" "round_winner" s_round_winner f fd) (T : TX mg) : FnOk P w K mg base (L2.CX P w) 1 f fd ["level", "pair"] (spOf ⟨P, w, K⟩ xm 2 f_round_winner) :=
  fn_ok (N := ["level", "pair", "target", "lead", "cap", "side"]) (m := false) (b := b_round_winner) xm F sc_round_winner fun cdv A outer s H E W hr tk =>
    ss_cons (ss_asgT (sg_tup (n := 3) (sgs_cons (pg_name (i := 2) sc_round_winner.nd rfl (Or.inl rfl)) (sgs_cons (pg_name (i := 3) sc_round_winner.nd rfl (Or.inl rfl)) (sgs_cons (pg_name (i := 4) sc_round_winner.nd rfl (Or.inl rfl)) (sgs_nil)))) rfl rfl) (se_var (pv 0)))
    (ss_cons (ss_set (i := 5) sc_round_winner.nd rfl (Or.inl rfl) (se_if (st_cmp op_gt ok_cmpI (se_ix ixr ok_ix (se_var (pv 1)) (se_int)) (se_ix ixr ok_ix (se_var (pv 1)) (se_int))) (se_int) (se_int)))
    (ss_cons (ss_if (st_bool (sw_or (st_bool (sw_and (st_cmp op_ge ok_cmpI (se_ix ixr ok_ix (se_var (pv 1)) (se_var (pv 5))) (se_var (pv 2))) (sw_and1 (st_cmp op_ge ok_cmpI (se_bin op_sub ok_sub (se_ix ixr ok_ix (se_var (pv 1)) (se_var (pv 5))) (se_ix ixr ok_ix (se_var (pv 1)) (se_bin op_sub ok_sub (se_int) (se_var (pv 5))))) (se_var (pv 3)))))) (sw_or1 (st_cmp (opr_eq hr) ok_eq (se_ix ixr ok_ix (se_var (pv 1)) (se_var (pv 5))) (se_var (pv 4)))))) (ss_one (ss_ret (se_var (pv 5)))) (ss_nil))
    (ss_one (ss_ret (se_non)))))
abbrev s_start_of : Stmt := top 22
theorem sc_start_of : FnScope ["form"] ["form"] (defScope s_start_of) := ⟨rfl, rfl, rfl, by decide +kernel, rfl, by decide +kernel, by decide +kernel⟩
theorem ok_start_of {f : Addr} {fd : FuncData} (F : Fun K "start_of" "start_of" s_start_of f fd) (T : TX mg) : FnOk P w K mg base (L2.CX P w) 1 f fd ["form"] (spOf ⟨P, w, K⟩ xm 1 f_start_of) :=
  fn_ok (N := ["form"]) (m := false) (b := b_start_of) xm F sc_start_of fun cdv A outer s H E W hr tk =>
    ss_one (ss_ret (se_bin opr_mul (ok_mul (m := false)) (se_tup (sa_cons (se_tup (sa_cons (se_int) (sa_cons (se_int) (sa_nil)))) (sa_nil))) (se_callB call_len ok_len (sa_cons (se_var (pv 0)) (sa_nil)) rfl T.n_len bt_len)))
abbrev s_plus : Stmt := top 23
theorem sc_plus : FnScope ["pair", "side"] ["pair", "side"] (defScope s_plus) := ⟨rfl, rfl, rfl, by decide +kernel, rfl, by decide +kernel, by decide +kernel⟩
theorem ok_plus {f : Addr} {fd : FuncData} (F : Fun K "plus" "plus" s_plus f fd) (T : TX mg) : FnOk P w K mg base (L2.CX P w) 1 f fd ["pair", "side"] (spOf ⟨P, w, K⟩ xm 2 f_plus) :=
  fn_ok (N := ["pair", "side"]) (m := false) (b := b_plus) xm F sc_plus fun cdv A outer s H E W hr tk =>
    ss_one (ss_ret (se_if (st_cmp (opr_eq hr) ok_eq (se_var (pv 1)) (se_int)) (se_tup (sa_cons (se_bin opr_add (ok_add (m := false)) (se_ix ixr ok_ix (se_var (pv 0)) (se_int)) (se_int)) (sa_cons (se_ix ixr ok_ix (se_var (pv 0)) (se_int)) (sa_nil)))) (se_tup (sa_cons (se_ix ixr ok_ix (se_var (pv 0)) (se_int)) (sa_cons (se_bin opr_add (ok_add (m := false)) (se_ix ixr ok_ix (se_var (pv 0)) (se_int)) (se_int)) (sa_nil))))))
abbrev s_settled : Stmt := top 30
theorem sc_settled : FnScope ["form", "now", "result", "level", "pair", "spare"] ["form", "now"] (defScope s_settled) := ⟨rfl, rfl, rfl, by decide +kernel, rfl, by decide +kernel, by decide +kernel⟩
theorem ok_settled {f : Addr} {fd : FuncData} (F : Fun K "settled" "settled" s_settled f fd) (T : TX mg) : FnOk P w K mg base (L2.CX P w) 1 f fd ["form", "now"] (spOf ⟨P, w, K⟩ xm 2 f_settled) :=
  fn_ok (N := ["form", "now", "result", "level", "pair", "spare"]) (m := false) (b := b_settled) xm F sc_settled fun cdv A outer s H E W hr tk =>
    ss_cons (ss_set (i := 2) sc_settled.nd rfl (Or.inl rfl) (se_lst (m := true) (sa_nil)))
    (ss_cons (ss_for (passes_of rfl) rfl (si_zip (sa_cons (se_var (pv 0)) (sa_cons (se_var (pv 1)) (sa_nil))) rfl T.n_zip) (sg_tup (n := 2) (sgs_cons (pg_name (i := 3) sc_settled.nd rfl (Or.inl rfl)) (sgs_cons (pg_name (i := 4) sc_settled.nd rfl (Or.inl rfl)) (sgs_nil))) rfl rfl) (ss_cons (ss_set (i := 5) sc_settled.nd rfl (Or.inl rfl) (se_if (st_cmp opr_is ok_is (se_ix ixr ok_ix (se_var (pv 3)) (se_int)) (se_non)) (se_bin opr_add (ok_add (m := false)) (se_bin op_sub ok_sub (se_callB (callr_min rfl hr) ok_min (sa_cons (se_var (pv 4)) (sa_nil)) rfl T.n_min bt_min) (se_ix ixr ok_ix (se_var (pv 3)) (se_int))) (se_int)) (se_int)))
    (ss_one (ss_expr (se_append (se_var (pv 2)) (sa_cons (se_if (st_cmp op_gt ok_cmpI (se_var (pv 5)) (se_int)) (se_tup (sa_cons (se_bin op_sub ok_sub (se_ix ixr ok_ix (se_var (pv 4)) (se_int)) (se_var (pv 5))) (sa_cons (se_bin op_sub ok_sub (se_ix ixr ok_ix (se_var (pv 4)) (se_int)) (se_var (pv 5))) (sa_nil)))) (se_var (pv 4))) (sa_nil)))))))
    (ss_one (ss_ret (se_callTy call_tuple_of ok_tuple (sa_cons (se_var (pv 2)) (sa_nil)) rfl T.n_tuple bt_tuple))))
abbrev s_Board___len__ : Stmt := inClass (top 33) 6
theorem sc_Board___len__ : FnScope ["self"] ["self"] (defScope s_Board___len__) := ⟨rfl, rfl, rfl, by decide +kernel, rfl, by decide +kernel, by decide +kernel⟩
theorem ok_Board___len__ {f : Addr} {fd : FuncData} (F : Fun K "__len__" "Board.__len__" s_Board___len__ f fd) (T : TX mg) {C : Addr} (Bc : Bdx K mg C) : FnOk P w K mg base (L2.CX P w) 1 f fd ["self"] (spOf ⟨P, w, K⟩ xm 1 f_Board___len__) :=
  fn_ok (N := ["self"]) (m := false) (b := b_Board___len__) xm F sc_Board___len__ fun cdv A outer s H E W hr tk =>
    ss_one (ss_ret (se_callB call_len ok_len (sa_cons (se_fld Bc.b (se_var (pv 0))) (sa_nil)) rfl T.n_len bt_len))
abbrev s_row_to : Stmt := top 41
theorem sc_row_to : FnScope ["sources", "key", "row", "side"] ["sources", "key"] (defScope s_row_to) := ⟨rfl, rfl, rfl, by decide +kernel, rfl, by decide +kernel, by decide +kernel⟩
theorem ok_row_to {f : Addr} {fd : FuncData} (F : Fun K "row_to" "row_to" s_row_to f fd) (T : TX mg) : FnOk P w K mg base (L2.CX P w) 1 f fd ["sources", "key"] (spOf ⟨P, w, K⟩ xm 2 f_row_to) :=
  fn_ok (N := ["sources", "key", "row", "side"]) (m := false) (b := b_row_to) xm F sc_row_to fun cdv A outer s H E W hr tk =>
    ss_cons (ss_set (i := 2) sc_row_to.nd rfl (Or.inl rfl) (se_lst (m := true) (sa_nil)))
    (ss_cons (ss_while 20000000 (passes_of rfl) (st_cmp opr_isN ok_isN (se_ix (ix_x (hu9 hr)) ok_getX (se_var (pv 0)) (se_var (pv 1))) (se_non)) (ss_cons (ss_asgT (sg_tup (n := 2) (sgs_cons (pg_name (i := 1) sc_row_to.nd rfl (Or.inl rfl)) (sgs_cons (pg_name (i := 3) sc_row_to.nd rfl (Or.inl rfl)) (sgs_nil))) rfl rfl) (se_ix (ix_x (hu9 hr)) ok_getX (se_var (pv 0)) (se_var (pv 1))))
    (ss_one (ss_expr (se_append (se_var (pv 2)) (sa_cons (se_var (pv 3)) (sa_nil)))))))
    (ss_one (ss_ret (se_rev (m := false) (se_var (pv 2))))))
abbrev s__law_draw : Stmt := top 44
theorem sc__law_draw : FnScope ["_law_script", "_law_town", "_law_many", "_law_one", "_law_at", "_law_mixed"] ["_law_script", "_law_town", "_law_many"] (defScope s__law_draw) := ⟨rfl, rfl, rfl, by decide +kernel, rfl, by decide +kernel, by decide +kernel⟩
theorem ok__law_draw {f : Addr} {fd : FuncData} (F : Fun K "_law_draw" "_law_draw" s__law_draw f fd) (T : TX mg) : FnOk P w K mg base (L2.CX P w) 1 f fd ["_law_script", "_law_town", "_law_many"] (spOf ⟨P, w, K⟩ xm 3 f__law_draw) :=
  fn_ok (N := ["_law_script", "_law_town", "_law_many", "_law_one", "_law_at", "_law_mixed"]) (m := false) (b := b__law_draw) xm F sc__law_draw fun cdv A outer s H E W hr tk =>
    ss_cons (ss_if (st_cmp op_gt ok_cmpI (se_ix ixr ok_ix (se_var (pv 1)) (se_int)) (se_int)) (ss_cons (ss_set (i := 3) sc__law_draw.nd rfl (Or.inl rfl) (se_bin op_mod ok_mod (se_ix ixr ok_ix (se_var (pv 1)) (se_int)) (se_var (pv 2))))
    (ss_cons (ss_setIx (se_bin opr_fdiv ok_fdiv (se_ix ixr ok_ix (se_var (pv 1)) (se_int)) (se_var (pv 2))) (se_var (pv 1)) (se_int))
    (ss_one (ss_ret (se_var (pv 3)))))) (ss_nil))
    (ss_cons (ss_set (i := 4) sc__law_draw.nd rfl (Or.inl rfl) (se_ix ixr ok_ix (se_var (pv 1)) (se_int)))
    (ss_cons (ss_augIx iop_add ok_addI (se_var (pv 1)) (se_int) (se_int))
    (ss_cons (ss_if (st_cmp (opr_eq hr) ok_eq (se_var (pv 0)) (se_lst (m := false) (sa_nil))) (ss_one (ss_ret (se_bin op_mod ok_mod (se_var (pv 4)) (se_var (pv 2))))) (ss_nil))
    (ss_cons (ss_if (st_bool (sw_and (st_cmp (opr_lt hr) ok_lt (se_var (pv 4)) (se_callB call_len ok_len (sa_cons (se_var (pv 0)) (sa_nil)) rfl T.n_len bt_len)) (sw_and1 (st_cmp op_ge ok_cmpI (se_ix ixr ok_ix (se_var (pv 0)) (se_var (pv 4))) (se_bin op_pow ok_pow (se_int) (se_int)))))) (ss_cons (ss_setIx (se_bin op_mod ok_mod (se_bin opr_fdiv ok_fdiv (se_ix ixr ok_ix (se_var (pv 0)) (se_var (pv 4))) (se_var (pv 2))) (se_bin opr_mul (ok_mul (m := false)) (se_bin op_pow ok_pow (se_int) (se_int)) (se_bin op_pow ok_pow (se_int) (se_int)))) (se_var (pv 1)) (se_int))
    (ss_one (ss_ret (se_bin op_mod ok_mod (se_ix ixr ok_ix (se_var (pv 0)) (se_var (pv 4))) (se_var (pv 2)))))) (ss_nil))
    (ss_cons (ss_set (i := 5) sc__law_draw.nd rfl (Or.inl rfl) (se_bin op_mod ok_mod (se_bin opr_add (ok_add (m := false)) (se_bin opr_add (ok_add (m := false)) (se_bin opr_mul (ok_mul (m := false)) (se_ix ixr ok_ix (se_var (pv 0)) (se_bin op_mod ok_mod (se_var (pv 4)) (se_callB call_len ok_len (sa_cons (se_var (pv 0)) (sa_nil)) rfl T.n_len bt_len))) (se_int)) (se_bin opr_mul (ok_mul (m := false)) (se_int) (se_var (pv 4)))) (se_int)) (se_int)))
    (ss_one (ss_ret (se_bin op_mod ok_mod (se_bin op_mod ok_mod (se_bin op_mod ok_mod (se_bin op_pow ok_pow (se_var (pv 5)) (se_int)) (se_int)) (se_int)) (se_var (pv 2))))))))))
abbrev s__law_won : Stmt := top 48
theorem sc__law_won : FnScope ["_law_level_here", "_law_one", "_law_two", "_law_target", "_law_lead", "_law_cap"] ["_law_level_here", "_law_one", "_law_two"] (defScope s__law_won) := ⟨rfl, rfl, rfl, by decide +kernel, rfl, by decide +kernel, by decide +kernel⟩
theorem ok__law_won {f : Addr} {fd : FuncData} (F : Fun K "_law_won" "_law_won" s__law_won f fd) (T : TX mg) : FnOk P w K mg base (L2.CX P w) 1 f fd ["_law_level_here", "_law_one", "_law_two"] (spOf ⟨P, w, K⟩ xm 3 f__law_won) :=
  fn_ok (N := ["_law_level_here", "_law_one", "_law_two", "_law_target", "_law_lead", "_law_cap"]) (m := false) (b := b__law_won) xm F sc__law_won fun cdv A outer s H E W hr tk =>
    ss_cons (ss_asgT (sg_tup (n := 3) (sgs_cons (pg_name (i := 3) sc__law_won.nd rfl (Or.inl rfl)) (sgs_cons (pg_name (i := 4) sc__law_won.nd rfl (Or.inl rfl)) (sgs_cons (pg_name (i := 5) sc__law_won.nd rfl (Or.inl rfl)) (sgs_nil)))) rfl rfl) (se_var (pv 0)))
    (ss_one (ss_ret (se_or (se_and (se_cmp op_ge ok_cmpI (se_var (pv 1)) (se_var (pv 3))) (se_one (se_cmp op_ge ok_cmpI (se_bin op_sub ok_sub (se_var (pv 1)) (se_var (pv 2))) (se_var (pv 4))))) (se_one (se_and (se_cmp opr_isN ok_isN (se_var (pv 5)) (se_non)) (se_one (se_cmp (opr_eq hr) ok_eq (se_var (pv 1)) (se_var (pv 5)))))))))
abbrev s_is_level : Stmt := top 14
theorem sc_is_level : FnScope ["value"] ["value"] (defScope s_is_level) := ⟨rfl, rfl, rfl, by decide +kernel, rfl, by decide +kernel, by decide +kernel⟩
theorem ok_is_level {f : Addr} {fd : FuncData} (F : Fun K "is_level" "is_level" s_is_level f fd) (T : TX mg) {a_is_count : Addr} {fd_is_count : FuncData} (D_is_count : Df K mg "is_count" s_is_count ["value", "least", "most"] a_is_count fd_is_count) (G_is_count : FnOk P w K mg base (L2.CX P w) 1 a_is_count fd_is_count ["value", "least", "most"] (spOf ⟨P, w, K⟩ xm 3 f_is_count)) : FnOk P w K mg base (L2.CX P w) 2 f fd ["value"] (spOf ⟨P, w, K⟩ xm 1 f_is_level) :=
  fn_ok (N := ["value"]) (m := false) (b := b_is_level) xm F sc_is_level fun cdv A outer s H E W hr tk =>
    ss_cons (ss_if (st_bool (sw_or (st_not (st_val (se_callB callr_isa ok_isa (sa_cons (se_var (pv 0)) (sa_cons (se_ty T.n_tuple bt_tuple) (sa_nil))) rfl T.n_isinstance bt_isinstance))) (sw_or (st_cmp (opr_ne hr) ok_ne (se_callB call_len ok_len (sa_cons (se_var (pv 0)) (sa_nil)) rfl T.n_len bt_len) (se_int)) (sw_or1 (st_not (st_val (se_call (fn_pure G_is_count) rfl tk (hr.mono (by decide)) D_is_count.m D_is_count.F.kp D_is_count.b (sa_cons (se_ix ixr ok_ix (se_var (pv 0)) (se_int)) (sa_cons (se_int) (sa_cons (se_globI T.c_TARGET) (sa_nil)))) (len_cons (len_cons (len_cons len_nil)))))))))) (ss_one (ss_ret (se_bl))) (ss_nil))
    (ss_one (ss_ret (se_and (se_call (fn_pure G_is_count) rfl tk (hr.mono (by decide)) D_is_count.m D_is_count.F.kp D_is_count.b (sa_cons (se_ix ixr ok_ix (se_var (pv 0)) (se_int)) (sa_cons (se_int) (sa_cons (se_globI T.c_LEAD) (sa_nil)))) (len_cons (len_cons (len_cons len_nil)))) (se_one (se_or (se_cmp opr_is ok_is (se_ix ixr ok_ix (se_var (pv 0)) (se_int)) (se_non)) (se_one (se_call (fn_pure G_is_count) rfl tk (hr.mono (by decide)) D_is_count.m D_is_count.F.kp D_is_count.b (sa_cons (se_ix ixr ok_ix (se_var (pv 0)) (se_int)) (sa_cons (se_ix ixr ok_ix (se_var (pv 0)) (se_int)) (sa_cons (se_globI T.c_CAP) (sa_nil)))) (len_cons (len_cons (len_cons len_nil))))))))))
abbrev s_is_side : Stmt := top 17
theorem sc_is_side : FnScope ["value"] ["value"] (defScope s_is_side) := ⟨rfl, rfl, rfl, by decide +kernel, rfl, by decide +kernel, by decide +kernel⟩
theorem ok_is_side {f : Addr} {fd : FuncData} (F : Fun K "is_side" "is_side" s_is_side f fd) (T : TX mg) {a_is_count : Addr} {fd_is_count : FuncData} (D_is_count : Df K mg "is_count" s_is_count ["value", "least", "most"] a_is_count fd_is_count) (G_is_count : FnOk P w K mg base (L2.CX P w) 1 a_is_count fd_is_count ["value", "least", "most"] (spOf ⟨P, w, K⟩ xm 3 f_is_count)) : FnOk P w K mg base (L2.CX P w) 2 f fd ["value"] (spOf ⟨P, w, K⟩ xm 1 f_is_side) :=
  fn_ok (N := ["value"]) (m := false) (b := b_is_side) xm F sc_is_side fun cdv A outer s H E W hr tk =>
    ss_one (ss_ret (se_call (fn_pure G_is_count) rfl tk (hr.mono (by decide)) D_is_count.m D_is_count.F.kp D_is_count.b (sa_cons (se_var (pv 0)) (sa_cons (se_int) (sa_cons (se_int) (sa_nil)))) (len_cons (len_cons (len_cons len_nil)))))
abbrev s_after : Stmt := top 24
theorem sc_after : FnScope ["form", "score", "side", "pairs", "at", "level", "won"] ["form", "score", "side"] (defScope s_after) := ⟨rfl, rfl, rfl, by decide +kernel, rfl, by decide +kernel, by decide +kernel⟩
theorem ok_after {f : Addr} {fd : FuncData} (F : Fun K "after" "after" s_after f fd) (T : TX mg) {a_round_winner : Addr} {fd_round_winner : FuncData} (D_round_winner : Df K mg "round_winner" s_round_winner ["level", "pair"] a_round_winner fd_round_winner) (G_round_winner : FnOk P w K mg base (L2.CX P w) 1 a_round_winner fd_round_winner ["level", "pair"] (spOf ⟨P, w, K⟩ xm 2 f_round_winner)) {a_plus : Addr} {fd_plus : FuncData} (D_plus : Df K mg "plus" s_plus ["pair", "side"] a_plus fd_plus) (G_plus : FnOk P w K mg base (L2.CX P w) 1 a_plus fd_plus ["pair", "side"] (spOf ⟨P, w, K⟩ xm 2 f_plus)) : FnOk P w K mg base (L2.CX P w) 2 f fd ["form", "score", "side"] (spOf ⟨P, w, K⟩ xm 3 f_after) :=
  fn_ok (N := ["form", "score", "side", "pairs", "at", "level", "won"]) (m := false) (b := b_after) xm F sc_after fun cdv A outer s H E W hr tk =>
    ss_cons (ss_set (i := 3) sc_after.nd rfl (Or.inl rfl) (se_callTy call_list_of (ok_list (m := true)) (sa_cons (se_var (pv 1)) (sa_nil)) rfl T.n_list bt_list))
    (ss_cons (ss_for (passes_of rfl) rfl (si_enum (sa_cons (se_var (pv 0)) (sa_nil)) rfl T.n_enumerate) (sg_tup (n := 2) (sgs_cons (pg_name (i := 4) sc_after.nd rfl (Or.inl rfl)) (sgs_cons (pg_name (i := 5) sc_after.nd rfl (Or.inl rfl)) (sgs_nil))) rfl rfl) (ss_cons (ss_setIx (se_call (fn_pure G_plus) rfl tk (hr.mono (by decide)) D_plus.m D_plus.F.kp D_plus.b (sa_cons (se_ix ixr ok_ix (se_var (pv 3)) (se_var (pv 4))) (sa_cons (se_var (pv 2)) (sa_nil))) (len_cons (len_cons len_nil))) (se_var (pv 3)) (se_var (pv 4)))
    (ss_cons (ss_set (i := 6) sc_after.nd rfl (Or.inl rfl) (se_call (fn_pure G_round_winner) rfl tk (hr.mono (by decide)) D_round_winner.m D_round_winner.F.kp D_round_winner.b (sa_cons (se_var (pv 5)) (sa_cons (se_ix ixr ok_ix (se_var (pv 3)) (se_var (pv 4))) (sa_nil))) (len_cons (len_cons len_nil))))
    (ss_cons (ss_if (st_cmp opr_is ok_is (se_var (pv 6)) (se_non)) (ss_one (ss_break)) (ss_nil))
    (ss_cons (ss_if (st_cmp (opr_eq hr) ok_eq (se_bin opr_add (ok_add (m := false)) (se_var (pv 4)) (se_int)) (se_callB call_len ok_len (sa_cons (se_var (pv 0)) (sa_nil)) rfl T.n_len bt_len)) (ss_one (ss_ret (se_tup (sa_cons (se_callTy call_tuple_of ok_tuple (sa_cons (se_var (pv 3)) (sa_nil)) rfl T.n_tuple bt_tuple) (sa_cons (se_var (pv 6)) (sa_nil)))))) (ss_nil))
    (ss_one (ss_setIx (se_tup (sa_cons (se_int) (sa_cons (se_int) (sa_nil)))) (se_var (pv 3)) (se_var (pv 4)))))))))
    (ss_one (ss_ret (se_tup (sa_cons (se_callTy call_tuple_of ok_tuple (sa_cons (se_var (pv 3)) (sa_nil)) rfl T.n_tuple bt_tuple) (sa_cons (se_non) (sa_nil)))))))
abbrev s_rounds : Stmt := top 35
theorem sc_rounds : FnScope ["level", "most", "paths", "left", "found", "number", "pair", "side", "reached"] ["level"] (defScope s_rounds) := ⟨rfl, rfl, rfl, by decide +kernel, rfl, by decide +kernel, by decide +kernel⟩
theorem ok_rounds {f : Addr} {fd : FuncData} (F : Fun K "rounds" "rounds" s_rounds f fd) (T : TX mg) {a_round_winner : Addr} {fd_round_winner : FuncData} (D_round_winner : Df K mg "round_winner" s_round_winner ["level", "pair"] a_round_winner fd_round_winner) (G_round_winner : FnOk P w K mg base (L2.CX P w) 1 a_round_winner fd_round_winner ["level", "pair"] (spOf ⟨P, w, K⟩ xm 2 f_round_winner)) {a_plus : Addr} {fd_plus : FuncData} (D_plus : Df K mg "plus" s_plus ["pair", "side"] a_plus fd_plus) (G_plus : FnOk P w K mg base (L2.CX P w) 1 a_plus fd_plus ["pair", "side"] (spOf ⟨P, w, K⟩ xm 2 f_plus)) : FnOk P w K mg base (L2.CX P w) 2 f fd ["level"] (spOf ⟨P, w, K⟩ xm 1 f_rounds) :=
  fn_ok (N := ["level", "most", "paths", "left", "found", "number", "pair", "side", "reached"]) (m := false) (b := b_rounds) xm F sc_rounds fun cdv A outer s H E W hr tk =>
    ss_cons (ss_set (i := 1) sc_rounds.nd rfl (Or.inl rfl) (se_if (st_cmp opr_is ok_is (se_ix ixr ok_ix (se_var (pv 0)) (se_int)) (se_non)) (se_bin opr_add (ok_add (m := false)) (se_ix ixr ok_ix (se_var (pv 0)) (se_int)) (se_ix ixr ok_ix (se_var (pv 0)) (se_int))) (se_ix ixr ok_ix (se_var (pv 0)) (se_int))))
    (ss_cons (ss_par2s (i := 2) (j := 3) rfl sc_rounds.nd (sa_cons (se_dct1 (hu9 hr) (se_tup (sa_cons (se_int) (sa_cons (se_int) (sa_nil)))) (se_lst (m := false) (sa_nil))) (sa_cons (se_lst (m := true) (sa_cons (se_tup (sa_cons (se_int) (sa_cons (se_int) (sa_nil)))) (sa_nil))) (sa_nil))) (by decide))
    (ss_cons (ss_set (i := 4) sc_rounds.nd rfl (Or.inl rfl) (se_lst (m := true) (sa_nil)))
    (ss_cons (ss_for (passes_of rfl) rfl (si_range1 (sa_cons (se_bin opr_mul (ok_mul (m := false)) (se_bin opr_add (ok_add (m := false)) (se_var (pv 1)) (se_int)) (se_bin opr_add (ok_add (m := false)) (se_var (pv 1)) (se_int))) (sa_nil)) rfl T.n_range) (sg_name (pg_name (i := 5) sc_rounds.nd rfl (Or.inl rfl))) (ss_cons (ss_if (st_cmp (opr_eq hr) ok_eq (se_var (pv 5)) (se_callB call_len ok_len (sa_cons (se_var (pv 3)) (sa_nil)) rfl T.n_len bt_len)) (ss_one (ss_break)) (ss_nil))
    (ss_cons (ss_set (i := 6) sc_rounds.nd rfl (Or.inl rfl) (se_ix ixr ok_ix (se_var (pv 3)) (se_var (pv 5))))
    (ss_one (ss_for (passes_of rfl) rfl (si_seq (se_tup (sa_cons (se_int) (sa_cons (se_int) (sa_nil))))) (sg_name (pg_name (i := 7) sc_rounds.nd rfl (Or.inl rfl))) (ss_cons (ss_set (i := 8) sc_rounds.nd rfl (Or.inl rfl) (se_call (fn_pure G_plus) rfl tk (hr.mono (by decide)) D_plus.m D_plus.F.kp D_plus.b (sa_cons (se_var (pv 6)) (sa_cons (se_var (pv 7)) (sa_nil))) (len_cons (len_cons len_nil))))
    (ss_one (ss_if (st_bool (sw_and (st_cmp op_le ok_cmpI (se_callB (callr_max rfl hr) ok_max (sa_cons (se_var (pv 8)) (sa_nil)) rfl T.n_max bt_max) (se_var (pv 1))) (sw_and1 (st_cmp (op_ninX (hu9 hr)) ok_ninX (se_var (pv 8)) (se_var (pv 2)))))) (ss_cons (ss_setX (hu9 hr) (se_bin opr_add (ok_add (m := false)) (se_ix (ix_x (hu9 hr)) ok_getX (se_var (pv 2)) (se_var (pv 6))) (se_lst (m := false) (sa_cons (se_var (pv 7)) (sa_nil)))) (se_var (pv 2)) (se_var (pv 8)))
    (ss_one (ss_if (st_cmp opr_is ok_is (se_call (fn_pure G_round_winner) rfl tk (hr.mono (by decide)) D_round_winner.m D_round_winner.F.kp D_round_winner.b (sa_cons (se_var (pv 0)) (sa_cons (se_var (pv 8)) (sa_nil))) (len_cons (len_cons len_nil))) (se_non)) (ss_one (ss_expr (se_append (se_var (pv 3)) (sa_cons (se_var (pv 8)) (sa_nil))))) (ss_one (ss_expr (se_append (se_var (pv 4)) (sa_cons (se_ix (ix_x (hu9 hr)) ok_getX (se_var (pv 2)) (se_var (pv 8))) (sa_nil)))))))) (ss_nil)))))))))
    (ss_one (ss_ret (se_var (pv 4)))))))
abbrev s__law_pick : Stmt := top 45
theorem sc__law_pick : FnScope ["_law_script", "_law_town", "_law_some"] ["_law_script", "_law_town", "_law_some"] (defScope s__law_pick) := ⟨rfl, rfl, rfl, by decide +kernel, rfl, by decide +kernel, by decide +kernel⟩
theorem ok__law_pick {f : Addr} {fd : FuncData} (F : Fun K "_law_pick" "_law_pick" s__law_pick f fd) (T : TX mg) {a__law_draw : Addr} {fd__law_draw : FuncData} (D__law_draw : Df K mg "_law_draw" s__law_draw ["_law_script", "_law_town", "_law_many"] a__law_draw fd__law_draw) (G__law_draw : FnOk P w K mg base (L2.CX P w) 1 a__law_draw fd__law_draw ["_law_script", "_law_town", "_law_many"] (spOf ⟨P, w, K⟩ xm 3 f__law_draw)) : FnOk P w K mg base (L2.CX P w) 2 f fd ["_law_script", "_law_town", "_law_some"] (spOf ⟨P, w, K⟩ xm 3 f__law_pick) :=
  fn_ok (N := ["_law_script", "_law_town", "_law_some"]) (m := false) (b := b__law_pick) xm F sc__law_pick fun cdv A outer s H E W hr tk =>
    ss_one (ss_ret (se_ix ixr ok_ix (se_var (pv 2)) (se_call G__law_draw rfl tk (hr.mono (by decide)) D__law_draw.m D__law_draw.F.kp D__law_draw.b (sa_cons (se_var (pv 0)) (sa_cons (se_var (pv 1)) (sa_cons (se_callB call_len ok_len (sa_cons (se_var (pv 2)) (sa_nil)) rfl T.n_len bt_len) (sa_nil)))) (len_cons (len_cons (len_cons len_nil))))))
abbrev s__law_after : Stmt := top 49
theorem sc__law_after : FnScope ["_law_form_here", "_law_state", "_law_side", "_law_units", "_law_at", "_law_pair"] ["_law_form_here", "_law_state", "_law_side"] (defScope s__law_after) := ⟨rfl, rfl, rfl, by decide +kernel, rfl, by decide +kernel, by decide +kernel⟩
theorem ok__law_after {f : Addr} {fd : FuncData} (F : Fun K "_law_after" "_law_after" s__law_after f fd) (T : TX mg) {a__law_won : Addr} {fd__law_won : FuncData} (D__law_won : Df K mg "_law_won" s__law_won ["_law_level_here", "_law_one", "_law_two"] a__law_won fd__law_won) (G__law_won : FnOk P w K mg base (L2.CX P w) 1 a__law_won fd__law_won ["_law_level_here", "_law_one", "_law_two"] (spOf ⟨P, w, K⟩ xm 3 f__law_won)) : FnOk P w K mg base (L2.CX P w) 2 f fd ["_law_form_here", "_law_state", "_law_side"] (spOf ⟨P, w, K⟩ xm 3 f__law_after) :=
  fn_ok (N := ["_law_form_here", "_law_state", "_law_side", "_law_units", "_law_at", "_law_pair"]) (m := false) (b := b__law_after) xm F sc__law_after fun cdv A outer s H E W hr tk =>
    ss_cons (ss_setLc (i := 3) (m := true) (own := [("_law_pair", 5)]) rfl sc__law_after.nd rfl rfl (sw_true rfl rfl rfl (by decide +kernel)) (blkOk_by (N := ["_law_form_here", "_law_state", "_law_side", "_law_units", "_law_at", "_law_pair"]) (sc := defScope s__law_after) (by decide +kernel)) (by decide) (si_seq (se_var (pv 1))) (fun _ _ _ _ _ => pg_name (i := 5) sc__law_after.nd rfl (Or.inl rfl)) tgk_name (fun _ _ _ _ _ => spt_nil) (fun _ _ _ _ _ => se_callTy call_list_of (ok_list (m := true)) (sa_cons (se_var (pv 5)) (sa_nil)) rfl T.n_list bt_list))
    (ss_cons (ss_for (passes_of rfl) rfl (si_range1 (sa_cons (se_callB call_len ok_len (sa_cons (se_var (pv 0)) (sa_nil)) rfl T.n_len bt_len) (sa_nil)) rfl T.n_range) (sg_name (pg_name (i := 4) sc__law_after.nd rfl (Or.inl rfl))) (ss_cons (ss_augIx iop_add ok_addI (se_ix ixr ok_ix (se_var (pv 3)) (se_var (pv 4))) (se_var (pv 2)) (se_int))
    (ss_cons (ss_if (st_not (st_val (se_call (fn_pure G__law_won) rfl tk (hr.mono (by decide)) D__law_won.m D__law_won.F.kp D__law_won.b (sa_cons (se_ix ixr ok_ix (se_var (pv 0)) (se_var (pv 4))) (sa_cons (se_ix ixr ok_ix (se_ix ixr ok_ix (se_var (pv 3)) (se_var (pv 4))) (se_var (pv 2))) (sa_cons (se_ix ixr ok_ix (se_ix ixr ok_ix (se_var (pv 3)) (se_var (pv 4))) (se_bin op_sub ok_sub (se_int) (se_var (pv 2)))) (sa_nil)))) (len_cons (len_cons (len_cons len_nil)))))) (ss_one (ss_ret (se_tup (sa_cons (se_var (pv 3)) (sa_cons (se_non) (sa_nil)))))) (ss_nil))
    (ss_one (ss_if (st_cmp (opr_lt hr) ok_lt (se_bin opr_add (ok_add (m := false)) (se_var (pv 4)) (se_int)) (se_callB call_len ok_len (sa_cons (se_var (pv 0)) (sa_nil)) rfl T.n_len bt_len)) (ss_one (ss_setIx (se_lst (m := true) (sa_cons (se_int) (sa_cons (se_int) (sa_nil)))) (se_var (pv 3)) (se_var (pv 4)))) (ss_nil))))))
    (ss_one (ss_ret (se_tup (sa_cons (se_var (pv 3)) (sa_cons (se_var (pv 2)) (sa_nil)))))))
abbrev s__law_row : Stmt := top 51
theorem sc__law_row : FnScope ["_law_script", "_law_town", "_law_most", "_law_row_here", "_law_side", "_law_k", "_law_point"] ["_law_script", "_law_town", "_law_most"] (defScope s__law_row) := ⟨rfl, rfl, rfl, by decide +kernel, rfl, by decide +kernel, by decide +kernel⟩
theorem ok__law_row {f : Addr} {fd : FuncData} (F : Fun K "_law_row" "_law_row" s__law_row f fd) (T : TX mg) {a__law_draw : Addr} {fd__law_draw : FuncData} (D__law_draw : Df K mg "_law_draw" s__law_draw ["_law_script", "_law_town", "_law_many"] a__law_draw fd__law_draw) (G__law_draw : FnOk P w K mg base (L2.CX P w) 1 a__law_draw fd__law_draw ["_law_script", "_law_town", "_law_many"] (spOf ⟨P, w, K⟩ xm 3 f__law_draw)) : FnOk P w K mg base (L2.CX P w) 2 f fd ["_law_script", "_law_town", "_law_most"] (spOf ⟨P, w, K⟩ xm 3 f__law_row) :=
  fn_okN (N := ["_law_script", "_law_town", "_law_most", "_law_row_here", "_law_side", "_law_k", "_law_point"]) (b := b__law_row) xm F sc__law_row fun cdv A outer s H E W hr tk =>
    ss_cons (ss_setLc (i := 3) (m := true) (own := [("_law_k", 5)]) rfl sc__law_row.nd rfl rfl (sw_true rfl rfl rfl (by decide +kernel)) (blkOk_by (N := ["_law_script", "_law_town", "_law_most", "_law_row_here", "_law_side", "_law_k", "_law_point"]) (sc := defScope s__law_row) (by decide +kernel)) (by decide) (si_range1 (sa_cons (se_call G__law_draw rfl tk (hr.mono (by decide)) D__law_draw.m D__law_draw.F.kp D__law_draw.b (sa_cons (se_var (pv 0)) (sa_cons (se_var (pv 1)) (sa_cons (se_var (pv 2)) (sa_nil)))) (len_cons (len_cons (len_cons len_nil)))) (sa_nil)) rfl T.n_range) (fun _ _ _ _ _ => pg_name (i := 5) sc__law_row.nd rfl (Or.inl rfl)) tgk_name (fun _ _ _ _ _ => spt_nil) (fun _ _ _ _ _ => se_call G__law_draw rfl takes0 (hr.mono (by decide)) D__law_draw.m D__law_draw.F.kp D__law_draw.b (sa_cons (se_var (pv 0)) (sa_cons (se_var (pv 1)) (sa_cons (se_int) (sa_nil)))) (len_cons (len_cons (len_cons len_nil)))))
    (ss_cons (ss_if (st_cmp (opr_eq hr) ok_eq (se_call G__law_draw rfl tk (hr.mono (by decide)) D__law_draw.m D__law_draw.F.kp D__law_draw.b (sa_cons (se_var (pv 0)) (sa_cons (se_var (pv 1)) (sa_cons (se_int) (sa_nil)))) (len_cons (len_cons (len_cons len_nil)))) (se_int)) (ss_cons (ss_set (i := 4) sc__law_row.nd rfl (Or.inr rfl) (se_call G__law_draw rfl tk (hr.mono (by decide)) D__law_draw.m D__law_draw.F.kp D__law_draw.b (sa_cons (se_var (pv 0)) (sa_cons (se_var (pv 1)) (sa_cons (se_int) (sa_nil)))) (len_cons (len_cons (len_cons len_nil)))))
    (ss_one (ss_setLcM (i := 3) (m := true) (own := [("_law_point", 6)]) rfl sc__law_row.nd rfl rfl (sw_true rfl rfl rfl (by decide +kernel)) (blkOk_by (N := ["_law_script", "_law_town", "_law_most", "_law_row_here", "_law_side", "_law_k", "_law_point"]) (sc := defScope s__law_row) (by decide +kernel)) (by decide) (se_var (pv 3)) (fun _ _ _ _ _ => pg_name (i := 6) sc__law_row.nd rfl (Or.inl rfl)) tgk_name (fun _ _ _ _ _ => se_if (st_cmp op_gt ok_cmpI (se_call G__law_draw rfl takes0 (hr.mono (by decide)) D__law_draw.m D__law_draw.F.kp D__law_draw.b (sa_cons (se_var (pv 0)) (sa_cons (se_var (pv 1)) (sa_cons (se_int) (sa_nil)))) (len_cons (len_cons (len_cons len_nil)))) (se_int)) (se_var (pv 4)) (se_var (pv 6)))))) (ss_nil))
    (ss_one (ss_ret (se_var (pv 3)))))
abbrev s_is_form : Stmt := top 15
theorem sc_is_form : FnScope ["value", "level"] ["value"] (defScope s_is_form) := ⟨rfl, rfl, rfl, by decide +kernel, rfl, by decide +kernel, by decide +kernel⟩
theorem ok_is_form {f : Addr} {fd : FuncData} (F : Fun K "is_form" "is_form" s_is_form f fd) (T : TX mg) {a_is_level : Addr} {fd_is_level : FuncData} (D_is_level : Df K mg "is_level" s_is_level ["value"] a_is_level fd_is_level) (G_is_level : FnOk P w K mg base (L2.CX P w) 2 a_is_level fd_is_level ["value"] (spOf ⟨P, w, K⟩ xm 1 f_is_level)) : FnOk P w K mg base (L2.CX P w) 3 f fd ["value"] (spOf ⟨P, w, K⟩ xm 1 f_is_form) :=
  fn_ok (N := ["value", "level"]) (m := false) (b := b_is_form) xm F sc_is_form fun cdv A outer s H E W hr tk =>
    ss_one (ss_ret (se_and (se_callB callr_isa ok_isa (sa_cons (se_var (pv 0)) (sa_cons (se_ty T.n_tuple bt_tuple) (sa_nil))) rfl T.n_isinstance bt_isinstance) (se_and (se_chain op_le op_le (se_int) (se_callB call_len ok_len (sa_cons (se_var (pv 0)) (sa_nil)) rfl T.n_len bt_len) (se_globI T.c_LEVELS)) (se_one (se_callB (cr_all rfl) ok_all (sa_cons (se_lc (m := false) (own := [("level", 1)]) rfl sc_is_form.nd (blkOk_by (N := ["value", "level"]) (sc := defScope s_is_form) (by decide +kernel)) (by decide) (si_seq (se_var (pv 0))) (fun _ _ _ _ _ => pg_name (i := 1) sc_is_form.nd rfl (Or.inl rfl)) tgk_name (fun _ _ _ _ _ => spt_nil) (fun _ _ _ _ _ => se_call (fn_pure G_is_level) rfl takes0 (hr.mono (by decide)) D_is_level.m D_is_level.F.kp D_is_level.b (sa_cons (se_var (pv 1)) (sa_nil)) (len_cons len_nil))) (sa_nil)) rfl T.n_all bt_all)))))
abbrev s_need_side : Stmt := top 18
theorem sc_need_side : FnScope ["value"] ["value"] (defScope s_need_side) := ⟨rfl, rfl, rfl, by decide +kernel, rfl, by decide +kernel, by decide +kernel⟩
theorem ok_need_side {f : Addr} {fd : FuncData} (F : Fun K "need_side" "need_side" s_need_side f fd) (T : TX mg) {a_is_side : Addr} {fd_is_side : FuncData} (D_is_side : Df K mg "is_side" s_is_side ["value"] a_is_side fd_is_side) (G_is_side : FnOk P w K mg base (L2.CX P w) 2 a_is_side fd_is_side ["value"] (spOf ⟨P, w, K⟩ xm 1 f_is_side)) : FnOk P w K mg base (L2.CX P w) 3 f fd ["value"] (spOf ⟨P, w, K⟩ xm 1 f_need_side) :=
  fn_ok (N := ["value"]) (m := false) (b := b_need_side) xm F sc_need_side fun cdv A outer s H E W hr tk =>
    ss_one (ss_if (st_not (st_val (se_call (fn_pure G_is_side) rfl tk (hr.mono (by decide)) D_is_side.m D_is_side.F.kp D_is_side.b (sa_cons (se_var (pv 0)) (sa_nil)) (len_cons len_nil)))) (ss_one (ss_bad)) (ss_nil))
abbrev s_need_row : Stmt := top 19
theorem sc_need_row : FnScope ["value", "side"] ["value"] (defScope s_need_row) := ⟨rfl, rfl, rfl, by decide +kernel, rfl, by decide +kernel, by decide +kernel⟩
theorem ok_need_row {f : Addr} {fd : FuncData} (F : Fun K "need_row" "need_row" s_need_row f fd) (T : TX mg) {a_is_side : Addr} {fd_is_side : FuncData} (D_is_side : Df K mg "is_side" s_is_side ["value"] a_is_side fd_is_side) (G_is_side : FnOk P w K mg base (L2.CX P w) 2 a_is_side fd_is_side ["value"] (spOf ⟨P, w, K⟩ xm 1 f_is_side)) : FnOk P w K mg base (L2.CX P w) 3 f fd ["value"] (spOf ⟨P, w, K⟩ xm 1 f_need_row) :=
  fn_ok (N := ["value", "side"]) (m := false) (b := b_need_row) xm F sc_need_row fun cdv A outer s H E W hr tk =>
    ss_one (ss_if (st_bool (sw_or (st_not (st_val (se_callB callr_isa ok_isa (sa_cons (se_var (pv 0)) (sa_cons (se_tup (sa_cons (se_ty T.n_list bt_list) (sa_cons (se_ty T.n_tuple bt_tuple) (sa_nil)))) (sa_nil))) rfl T.n_isinstance bt_isinstance))) (sw_or (st_cmp op_gt ok_cmpI (se_callB call_len ok_len (sa_cons (se_var (pv 0)) (sa_nil)) rfl T.n_len bt_len) (se_globI T.c_POINTS)) (sw_or1 (st_not (st_val (se_callB (cr_all rfl) ok_all (sa_cons (se_lcM (m := false) (own := [("side", 1)]) rfl sc_need_row.nd (blkOk_by (N := ["value", "side"]) (sc := defScope s_need_row) (by decide +kernel)) (by decide) (se_var (pv 0)) (fun _ _ _ _ _ => pg_name (i := 1) sc_need_row.nd rfl (Or.inl rfl)) tgk_name (fun _ _ _ _ _ => se_call (fn_pure G_is_side) rfl takes0 (hr.mono (by decide)) D_is_side.m D_is_side.F.kp D_is_side.b (sa_cons (se_var (pv 1)) (sa_nil)) (len_cons len_nil))) (sa_nil)) rfl T.n_all bt_all))))))) (ss_one (ss_bad)) (ss_nil))
abbrev s_played : Stmt := top 25
theorem sc_played : FnScope ["form", "row", "score", "won", "many", "side"] ["form", "row"] (defScope s_played) := ⟨rfl, rfl, rfl, by decide +kernel, rfl, by decide +kernel, by decide +kernel⟩
theorem ok_played {f : Addr} {fd : FuncData} (F : Fun K "played" "played" s_played f fd) (T : TX mg) {a_start_of : Addr} {fd_start_of : FuncData} (D_start_of : Df K mg "start_of" s_start_of ["form"] a_start_of fd_start_of) (G_start_of : FnOk P w K mg base (L2.CX P w) 1 a_start_of fd_start_of ["form"] (spOf ⟨P, w, K⟩ xm 1 f_start_of)) {a_after : Addr} {fd_after : FuncData} (D_after : Df K mg "after" s_after ["form", "score", "side"] a_after fd_after) (G_after : FnOk P w K mg base (L2.CX P w) 2 a_after fd_after ["form", "score", "side"] (spOf ⟨P, w, K⟩ xm 3 f_after)) : FnOk P w K mg base (L2.CX P w) 3 f fd ["form", "row"] (spOf ⟨P, w, K⟩ xm 2 f_played) :=
  fn_ok (N := ["form", "row", "score", "won", "many", "side"]) (m := false) (b := b_played) xm F sc_played fun cdv A outer s H E W hr tk =>
    ss_cons (ss_par3s (i := 2) (j := 3) (l := 4) rfl sc_played.nd (sa_cons (se_call (fn_pure G_start_of) rfl tk (hr.mono (by decide)) D_start_of.m D_start_of.F.kp D_start_of.b (sa_cons (se_var (pv 0)) (sa_nil)) (len_cons len_nil)) (sa_cons (se_non) (sa_cons (se_int) (sa_nil)))) (by decide) (by decide) (by decide))
    (ss_cons (ss_forD (passes_of rfl) rfl (se_var (pv 1)) (sg_name (pg_name (i := 5) sc_played.nd rfl (Or.inl rfl))) (ss_one (ss_if (st_cmp opr_is ok_is (se_var (pv 3)) (se_non)) (ss_cons (ss_asgT (sg_tup (n := 2) (sgs_cons (pg_name (i := 2) sc_played.nd rfl (Or.inl rfl)) (sgs_cons (pg_name (i := 3) sc_played.nd rfl (Or.inl rfl)) (sgs_nil))) rfl rfl) (se_call (fn_pure G_after) rfl tk (hr.mono (by decide)) D_after.m D_after.F.kp D_after.b (sa_cons (se_var (pv 0)) (sa_cons (se_var (pv 2)) (sa_cons (se_var (pv 5)) (sa_nil)))) (len_cons (len_cons (len_cons len_nil)))))
    (ss_one (ss_aug (i := 4) sc_played.nd rfl (Or.inl rfl) iop_add ok_addI (se_int)))) (ss_nil))))
    (ss_one (ss_ret (se_tup (sa_cons (se_var (pv 2)) (sa_cons (se_var (pv 3)) (sa_cons (se_var (pv 4)) (sa_nil))))))))
abbrev s_needs_at : Stmt := top 29
theorem sc_needs_at : FnScope ["form", "now", "won", "side", "many"] ["form", "now", "won", "side"] (defScope s_needs_at) := ⟨rfl, rfl, rfl, by decide +kernel, rfl, by decide +kernel, by decide +kernel⟩
theorem ok_needs_at {f : Addr} {fd : FuncData} (F : Fun K "needs_at" "needs_at" s_needs_at f fd) (T : TX mg) {a_after : Addr} {fd_after : FuncData} (D_after : Df K mg "after" s_after ["form", "score", "side"] a_after fd_after) (G_after : FnOk P w K mg base (L2.CX P w) 2 a_after fd_after ["form", "score", "side"] (spOf ⟨P, w, K⟩ xm 3 f_after)) : FnOk P w K mg base (L2.CX P w) 3 f fd ["form", "now", "won", "side"] (spOf ⟨P, w, K⟩ xm 4 f_needs_at) :=
  fn_ok (N := ["form", "now", "won", "side", "many"]) (m := false) (b := b_needs_at) xm F sc_needs_at fun cdv A outer s H E W hr tk =>
    ss_cons (ss_if (st_cmp opr_isN ok_isN (se_var (pv 2)) (se_non)) (ss_one (ss_ret (se_if (st_cmp (opr_eq hr) ok_eq (se_var (pv 2)) (se_var (pv 3))) (se_int) (se_non)))) (ss_nil))
    (ss_cons (ss_set (i := 4) sc_needs_at.nd rfl (Or.inl rfl) (se_int))
    (ss_cons (ss_while 100000 (passes_of rfl) (st_cmp opr_is ok_is (se_var (pv 2)) (se_non)) (ss_cons (ss_asgT (sg_tup (n := 2) (sgs_cons (pg_name (i := 1) sc_needs_at.nd rfl (Or.inl rfl)) (sgs_cons (pg_name (i := 2) sc_needs_at.nd rfl (Or.inl rfl)) (sgs_nil))) rfl rfl) (se_call (fn_pure G_after) rfl tk (hr.mono (by decide)) D_after.m D_after.F.kp D_after.b (sa_cons (se_var (pv 0)) (sa_cons (se_var (pv 1)) (sa_cons (se_var (pv 3)) (sa_nil)))) (len_cons (len_cons (len_cons len_nil)))))
    (ss_one (ss_aug (i := 4) sc_needs_at.nd rfl (Or.inl rfl) iop_add ok_addI (se_int)))))
    (ss_one (ss_ret (se_var (pv 4))))))
abbrev s_best_row : Stmt := top 36
theorem sc_best_row : FnScope ["level", "wins", "units", "best", "path", "value", "points", "side"] ["level", "wins", "units"] (defScope s_best_row) := ⟨rfl, rfl, rfl, by decide +kernel, rfl, by decide +kernel, by decide +kernel⟩
theorem ok_best_row {f : Addr} {fd : FuncData} (F : Fun K "best_row" "best_row" s_best_row f fd) (T : TX mg) {a_round_winner : Addr} {fd_round_winner : FuncData} (D_round_winner : Df K mg "round_winner" s_round_winner ["level", "pair"] a_round_winner fd_round_winner) (G_round_winner : FnOk P w K mg base (L2.CX P w) 1 a_round_winner fd_round_winner ["level", "pair"] (spOf ⟨P, w, K⟩ xm 2 f_round_winner)) {a_rounds : Addr} {fd_rounds : FuncData} (D_rounds : Df K mg "rounds" s_rounds ["level"] a_rounds fd_rounds) (G_rounds : FnOk P w K mg base (L2.CX P w) 2 a_rounds fd_rounds ["level"] (spOf ⟨P, w, K⟩ xm 1 f_rounds)) : FnOk P w K mg base (L2.CX P w) 3 f fd ["level", "wins", "units"] (spOf ⟨P, w, K⟩ xm 3 f_best_row) :=
  fn_ok (N := ["level", "wins", "units", "best", "path", "value", "points", "side"]) (m := false) (b := b_best_row) xm F sc_best_row fun cdv A outer s H E W hr tk =>
    ss_cons (ss_set (i := 3) sc_best_row.nd rfl (Or.inl rfl) (se_non))
    (ss_cons (ss_for (passes_of rfl) rfl (si_seq (se_call (fn_pure G_rounds) rfl tk (hr.mono (by decide)) D_rounds.m D_rounds.F.kp D_rounds.b (sa_cons (se_var (pv 0)) (sa_nil)) (len_cons len_nil))) (sg_name (pg_name (i := 4) sc_best_row.nd rfl (Or.inl rfl))) (ss_one (ss_if (st_cmp (opr_eq hr) ok_eq (se_call (fn_pure G_round_winner) rfl tk (hr.mono (by decide)) D_round_winner.m D_round_winner.F.kp D_round_winner.b (sa_cons (se_var (pv 0)) (sa_cons (se_tup (sa_cons (se_count (se_var (pv 4)) (sa_cons (se_int) (sa_nil))) (sa_cons (se_count (se_var (pv 4)) (sa_cons (se_int) (sa_nil))) (sa_nil)))) (sa_nil))) (len_cons (len_cons len_nil))) (se_if (st_val (se_var (pv 1))) (se_int) (se_int))) (ss_cons (ss_set (i := 5) sc_best_row.nd rfl (Or.inl rfl) (se_callB (callr_sum rfl) ok_sum (sa_cons (se_lc (m := false) (own := [("side", 7)]) rfl sc_best_row.nd (blkOk_by (N := ["level", "wins", "units", "best", "path", "value", "points", "side"]) (sc := defScope s_best_row) (by decide +kernel)) (by decide) (si_seq (se_var (pv 4))) (fun _ _ _ _ _ => pg_name (i := 7) sc_best_row.nd rfl (Or.inl rfl)) tgk_name (fun _ _ _ _ _ => spt_nil) (fun _ _ _ _ _ => se_ix ixr ok_ix (se_ix ixr ok_ix (se_var (pv 2)) (se_var (pv 7))) (se_int))) (sa_nil)) rfl T.n_sum bt_sum))
    (ss_cons (ss_set (i := 6) sc_best_row.nd rfl (Or.inl rfl) (se_callB (callr_sum rfl) ok_sum (sa_cons (se_lc (m := false) (own := [("side", 7)]) rfl sc_best_row.nd (blkOk_by (N := ["level", "wins", "units", "best", "path", "value", "points", "side"]) (sc := defScope s_best_row) (by decide +kernel)) (by decide) (si_seq (se_var (pv 4))) (fun _ _ _ _ _ => pg_name (i := 7) sc_best_row.nd rfl (Or.inl rfl)) tgk_name (fun _ _ _ _ _ => spt_nil) (fun _ _ _ _ _ => se_ix ixr ok_ix (se_ix ixr ok_ix (se_var (pv 2)) (se_var (pv 7))) (se_int))) (sa_nil)) rfl T.n_sum bt_sum))
    (ss_one (ss_if (st_bool (sw_or (st_cmp opr_is ok_is (se_var (pv 3)) (se_non)) (sw_or1 (st_cmp (opr_lt hr) ok_lt (se_tup (sa_cons (se_un un_neg ok_neg (se_var (pv 5))) (sa_cons (se_var (pv 6)) (sa_nil)))) (se_cut (m := false) (se_var (pv 3)) (so_none) (so_some (se_int))))))) (ss_one (ss_set (i := 3) sc_best_row.nd rfl (Or.inl rfl) (se_tup (sa_cons (se_un un_neg ok_neg (se_var (pv 5))) (sa_cons (se_var (pv 6)) (sa_cons (se_var (pv 4)) (sa_nil))))))) (ss_nil))))) (ss_nil))))
    (ss_one (ss_ret (se_tup (sa_cons (se_un un_neg ok_neg (se_ix ixr ok_ix (se_var (pv 3)) (se_int))) (sa_cons (se_ix ixr ok_ix (se_var (pv 3)) (se_int)) (sa_cons (se_ix ixr ok_ix (se_var (pv 3)) (se_int)) (sa_nil))))))))
abbrev s__law_level : Stmt := top 46
theorem sc__law_level : FnScope ["_law_script", "_law_town", "_law_most", "_law_target", "_law_cap"] ["_law_script", "_law_town", "_law_most"] (defScope s__law_level) := ⟨rfl, rfl, rfl, by decide +kernel, rfl, by decide +kernel, by decide +kernel⟩
theorem ok__law_level {f : Addr} {fd : FuncData} (F : Fun K "_law_level" "_law_level" s__law_level f fd) (T : TX mg) {a__law_draw : Addr} {fd__law_draw : FuncData} (D__law_draw : Df K mg "_law_draw" s__law_draw ["_law_script", "_law_town", "_law_many"] a__law_draw fd__law_draw) (G__law_draw : FnOk P w K mg base (L2.CX P w) 1 a__law_draw fd__law_draw ["_law_script", "_law_town", "_law_many"] (spOf ⟨P, w, K⟩ xm 3 f__law_draw)) {a__law_pick : Addr} {fd__law_pick : FuncData} (D__law_pick : Df K mg "_law_pick" s__law_pick ["_law_script", "_law_town", "_law_some"] a__law_pick fd__law_pick) (G__law_pick : FnOk P w K mg base (L2.CX P w) 2 a__law_pick fd__law_pick ["_law_script", "_law_town", "_law_some"] (spOf ⟨P, w, K⟩ xm 3 f__law_pick)) : FnOk P w K mg base (L2.CX P w) 3 f fd ["_law_script", "_law_town", "_law_most"] (spOf ⟨P, w, K⟩ xm 3 f__law_level) :=
  fn_ok (N := ["_law_script", "_law_town", "_law_most", "_law_target", "_law_cap"]) (m := false) (b := b__law_level) xm F sc__law_level fun cdv A outer s H E W hr tk =>
    ss_cons (ss_set (i := 3) sc__law_level.nd rfl (Or.inl rfl) (se_bin opr_add (ok_add (m := false)) (se_int) (se_call G__law_draw rfl tk (hr.mono (by decide)) D__law_draw.m D__law_draw.F.kp D__law_draw.b (sa_cons (se_var (pv 0)) (sa_cons (se_var (pv 1)) (sa_cons (se_var (pv 2)) (sa_nil)))) (len_cons (len_cons (len_cons len_nil))))))
    (ss_cons (ss_set (i := 4) sc__law_level.nd rfl (Or.inl rfl) (se_call G__law_pick rfl tk (hr.mono (by decide)) D__law_pick.m D__law_pick.F.kp D__law_pick.b (sa_cons (se_var (pv 0)) (sa_cons (se_var (pv 1)) (sa_cons (se_lst (m := false) (sa_cons (se_non) (sa_cons (se_non) (sa_cons (se_var (pv 3)) (sa_cons (se_bin opr_add (ok_add (m := false)) (se_var (pv 3)) (se_int)) (sa_cons (se_bin opr_add (ok_add (m := false)) (se_var (pv 3)) (se_int)) (sa_nil))))))) (sa_nil)))) (len_cons (len_cons (len_cons len_nil)))))
    (ss_one (ss_ret (se_tup (sa_cons (se_var (pv 3)) (sa_cons (se_bin opr_add (ok_add (m := false)) (se_int) (se_call G__law_draw rfl tk (hr.mono (by decide)) D__law_draw.m D__law_draw.F.kp D__law_draw.b (sa_cons (se_var (pv 0)) (sa_cons (se_var (pv 1)) (sa_cons (se_int) (sa_nil)))) (len_cons (len_cons (len_cons len_nil))))) (sa_cons (se_var (pv 4)) (sa_nil))))))))
abbrev s__law_play : Stmt := top 50
theorem sc__law_play : FnScope ["_law_form_here", "_law_row_here", "_law_state", "_law_won_here", "_law_many", "_law_side", "_law_level_here", "_law_pair"] ["_law_form_here", "_law_row_here"] (defScope s__law_play) := ⟨rfl, rfl, rfl, by decide +kernel, rfl, by decide +kernel, by decide +kernel⟩
theorem ok__law_play {f : Addr} {fd : FuncData} (F : Fun K "_law_play" "_law_play" s__law_play f fd) (T : TX mg) {a__law_after : Addr} {fd__law_after : FuncData} (D__law_after : Df K mg "_law_after" s__law_after ["_law_form_here", "_law_state", "_law_side"] a__law_after fd__law_after) (G__law_after : FnOk P w K mg base (L2.CX P w) 2 a__law_after fd__law_after ["_law_form_here", "_law_state", "_law_side"] (spOf ⟨P, w, K⟩ xm 3 f__law_after)) : FnOk P w K mg base (L2.CX P w) 3 f fd ["_law_form_here", "_law_row_here"] (spOf ⟨P, w, K⟩ xm 2 f__law_play) :=
  fn_ok (N := ["_law_form_here", "_law_row_here", "_law_state", "_law_won_here", "_law_many", "_law_side", "_law_level_here", "_law_pair"]) (m := false) (b := b__law_play) xm F sc__law_play fun cdv A outer s H E W hr tk =>
    ss_cons (ss_par3s (i := 2) (j := 3) (l := 4) rfl sc__law_play.nd (sa_cons (se_lc (m := false) (own := [("_law_level_here", 6)]) rfl sc__law_play.nd (blkOk_by (N := ["_law_form_here", "_law_row_here", "_law_state", "_law_won_here", "_law_many", "_law_side", "_law_level_here", "_law_pair"]) (sc := defScope s__law_play) (by decide +kernel)) (by decide) (si_seq (se_var (pv 0))) (fun _ _ _ _ _ => pg_name (i := 6) sc__law_play.nd rfl (Or.inl rfl)) tgk_name (fun _ _ _ _ _ => spt_nil) (fun _ _ _ _ _ => se_lst (m := false) (sa_cons (se_int) (sa_cons (se_int) (sa_nil))))) (sa_cons (se_non) (sa_cons (se_int) (sa_nil)))) (by decide) (by decide) (by decide))
    (ss_cons (ss_forD (passes_of rfl) rfl (se_var (pv 1)) (sg_name (pg_name (i := 5) sc__law_play.nd rfl (Or.inl rfl))) (ss_one (ss_if (st_cmp opr_is ok_is (se_var (pv 3)) (se_non)) (ss_cons (ss_asgT (sg_tup (n := 2) (sgs_cons (pg_name (i := 2) sc__law_play.nd rfl (Or.inl rfl)) (sgs_cons (pg_name (i := 3) sc__law_play.nd rfl (Or.inl rfl)) (sgs_nil))) rfl rfl) (se_call (fn_pure G__law_after) rfl tk (hr.mono (by decide)) D__law_after.m D__law_after.F.kp D__law_after.b (sa_cons (se_var (pv 0)) (sa_cons (se_var (pv 2)) (sa_cons (se_var (pv 5)) (sa_nil)))) (len_cons (len_cons (len_cons len_nil)))))
    (ss_one (ss_set (i := 4) sc__law_play.nd rfl (Or.inl rfl) (se_bin opr_add (ok_add (m := false)) (se_var (pv 4)) (se_int))))) (ss_nil))))
    (ss_one (ss_ret (se_tup (sa_cons (se_var (pv 3)) (sa_cons (se_var (pv 4)) (sa_cons (se_callTy call_tuple_of ok_tuple (sa_cons (se_lc (m := false) (own := [("_law_pair", 7)]) rfl sc__law_play.nd (blkOk_by (N := ["_law_form_here", "_law_row_here", "_law_state", "_law_won_here", "_law_many", "_law_side", "_law_level_here", "_law_pair"]) (sc := defScope s__law_play) (by decide +kernel)) (by decide) (si_seq (se_var (pv 2))) (fun _ _ _ _ _ => pg_name (i := 7) sc__law_play.nd rfl (Or.inl rfl)) tgk_name (fun _ _ _ _ _ => spt_nil) (fun _ _ _ _ _ => se_callTy call_tuple_of ok_tuple (sa_cons (se_var (pv 7)) (sa_nil)) rfl T.n_tuple bt_tuple)) (sa_nil)) rfl T.n_tuple bt_tuple) (sa_nil))))))))
abbrev s_need_form : Stmt := top 16
theorem sc_need_form : FnScope ["value"] ["value"] (defScope s_need_form) := ⟨rfl, rfl, rfl, by decide +kernel, rfl, by decide +kernel, by decide +kernel⟩
theorem ok_need_form {f : Addr} {fd : FuncData} (F : Fun K "need_form" "need_form" s_need_form f fd) (T : TX mg) {a_is_form : Addr} {fd_is_form : FuncData} (D_is_form : Df K mg "is_form" s_is_form ["value"] a_is_form fd_is_form) (G_is_form : FnOk P w K mg base (L2.CX P w) 3 a_is_form fd_is_form ["value"] (spOf ⟨P, w, K⟩ xm 1 f_is_form)) : FnOk P w K mg base (L2.CX P w) 4 f fd ["value"] (spOf ⟨P, w, K⟩ xm 1 f_need_form) :=
  fn_ok (N := ["value"]) (m := false) (b := b_need_form) xm F sc_need_form fun cdv A outer s H E W hr tk =>
    ss_one (ss_if (st_not (st_val (se_call (fn_pure G_is_form) rfl tk (hr.mono (by decide)) D_is_form.m D_is_form.F.kp D_is_form.b (sa_cons (se_var (pv 0)) (sa_nil)) (len_cons len_nil)))) (ss_one (ss_bad)) (ss_nil))
abbrev s_Board_score : Stmt := inClass (top 33) 3
theorem sc_Board_score : FnScope ["self"] ["self"] (defScope s_Board_score) := ⟨rfl, rfl, rfl, by decide +kernel, rfl, by decide +kernel, by decide +kernel⟩
theorem ok_Board_score {f : Addr} {fd : FuncData} (F : Fun K "score" "Board.score" s_Board_score f fd) (T : TX mg) {C : Addr} (Bc : Bdx K mg C) {a_played : Addr} {fd_played : FuncData} (D_played : Df K mg "played" s_played ["form", "row"] a_played fd_played) (G_played : FnOk P w K mg base (L2.CX P w) 3 a_played fd_played ["form", "row"] (spOf ⟨P, w, K⟩ xm 2 f_played)) : FnOk P w K mg base (L2.CX P w) 4 f fd ["self"] (spOf ⟨P, w, K⟩ xm 1 f_Board_score) :=
  fn_ok (N := ["self"]) (m := false) (b := b_Board_score) xm F sc_Board_score fun cdv A outer s H E W hr tk =>
    ss_one (ss_ret (se_ix ixr ok_ix (se_call G_played rfl tk (hr.mono (by decide)) D_played.m D_played.F.kp D_played.b (sa_cons (se_fld Bc.b (se_var (pv 0))) (sa_cons (se_fld Bc.b (se_var (pv 0))) (sa_nil))) (len_cons (len_cons len_nil))) (se_int)))
abbrev s_Board_winner : Stmt := inClass (top 33) 4
theorem sc_Board_winner : FnScope ["self"] ["self"] (defScope s_Board_winner) := ⟨rfl, rfl, rfl, by decide +kernel, rfl, by decide +kernel, by decide +kernel⟩
theorem ok_Board_winner {f : Addr} {fd : FuncData} (F : Fun K "winner" "Board.winner" s_Board_winner f fd) (T : TX mg) {C : Addr} (Bc : Bdx K mg C) {a_played : Addr} {fd_played : FuncData} (D_played : Df K mg "played" s_played ["form", "row"] a_played fd_played) (G_played : FnOk P w K mg base (L2.CX P w) 3 a_played fd_played ["form", "row"] (spOf ⟨P, w, K⟩ xm 2 f_played)) : FnOk P w K mg base (L2.CX P w) 4 f fd ["self"] (spOf ⟨P, w, K⟩ xm 1 f_Board_winner) :=
  fn_ok (N := ["self"]) (m := false) (b := b_Board_winner) xm F sc_Board_winner fun cdv A outer s H E W hr tk =>
    ss_one (ss_ret (se_ix ixr ok_ix (se_call G_played rfl tk (hr.mono (by decide)) D_played.m D_played.F.kp D_played.b (sa_cons (se_fld Bc.b (se_var (pv 0))) (sa_cons (se_fld Bc.b (se_var (pv 0))) (sa_nil))) (len_cons (len_cons len_nil))) (se_int)))
abbrev s_surpluses : Stmt := top 37
theorem sc_surpluses : FnScope ["form", "units", "found", "level", "won", "lost"] ["form"] (defScope s_surpluses) := ⟨rfl, rfl, rfl, by decide +kernel, rfl, by decide +kernel, by decide +kernel⟩
theorem ok_surpluses {f : Addr} {fd : FuncData} (F : Fun K "surpluses" "surpluses" s_surpluses f fd) (T : TX mg) {a_best_row : Addr} {fd_best_row : FuncData} (D_best_row : Df K mg "best_row" s_best_row ["level", "wins", "units"] a_best_row fd_best_row) (G_best_row : FnOk P w K mg base (L2.CX P w) 3 a_best_row fd_best_row ["level", "wins", "units"] (spOf ⟨P, w, K⟩ xm 3 f_best_row)) : FnOk P w K mg base (L2.CX P w) 4 f fd ["form"] (spOf ⟨P, w, K⟩ xm 1 f_surpluses) :=
  fn_ok (N := ["form", "units", "found", "level", "won", "lost"]) (m := false) (b := b_surpluses) xm F sc_surpluses fun cdv A outer s H E W hr tk =>
    ss_cons (ss_par2s (i := 1) (j := 2) rfl sc_surpluses.nd (sa_cons (se_tup (sa_cons (se_tup (sa_cons (se_un un_neg ok_neg (se_int)) (sa_cons (se_int) (sa_nil)))) (sa_cons (se_tup (sa_cons (se_int) (sa_cons (se_int) (sa_nil)))) (sa_nil)))) (sa_cons (se_lst (m := true) (sa_nil)) (sa_nil))) (by decide))
    (ss_cons (ss_for (passes_of rfl) rfl (si_seq (se_var (pv 0))) (sg_name (pg_name (i := 3) sc_surpluses.nd rfl (Or.inl rfl))) (ss_cons (ss_if (st_bool (sw_and (st_cmp opr_is ok_is (se_ix ixr ok_ix (se_var (pv 3)) (se_int)) (se_non)) (sw_and (st_cmp op_gt ok_cmpI (se_ix ixr ok_ix (se_var (pv 3)) (se_int)) (se_int)) (sw_and1 (st_cmp op_gt ok_cmpI (se_bin opr_add (ok_add (m := false)) (se_ix ixr ok_ix (se_ix ixr ok_ix (se_var (pv 1)) (se_int)) (se_int)) (se_ix ixr ok_ix (se_ix ixr ok_ix (se_var (pv 1)) (se_int)) (se_int))) (se_int)))))) (ss_one (ss_ret (se_non))) (ss_nil))
    (ss_cons (ss_par2s (i := 4) (j := 5) rfl sc_surpluses.nd (sa_cons (se_call (fn_pure G_best_row) rfl tk (hr.mono (by decide)) D_best_row.m D_best_row.F.kp D_best_row.b (sa_cons (se_var (pv 3)) (sa_cons (se_bl) (sa_cons (se_var (pv 1)) (sa_nil)))) (len_cons (len_cons (len_cons len_nil)))) (sa_cons (se_call (fn_pure G_best_row) rfl tk (hr.mono (by decide)) D_best_row.m D_best_row.F.kp D_best_row.b (sa_cons (se_var (pv 3)) (sa_cons (se_bl) (sa_cons (se_var (pv 1)) (sa_nil)))) (len_cons (len_cons (len_cons len_nil)))) (sa_nil))) (by decide))
    (ss_cons (ss_expr (se_append (se_var (pv 2)) (sa_cons (se_tup (sa_cons (se_var (pv 4)) (sa_cons (se_var (pv 5)) (sa_nil)))) (sa_nil))))
    (ss_one (ss_set (i := 1) sc_surpluses.nd rfl (Or.inl rfl) (se_tup (sa_cons (se_cut (m := false) (se_var (pv 4)) (so_none) (so_some (se_int))) (sa_cons (se_cut (m := false) (se_var (pv 5)) (so_none) (so_some (se_int))) (sa_nil))))))))))
    (ss_one (ss_ret (se_var (pv 2)))))
abbrev s_points_of : Stmt := top 38
theorem sc_points_of : FnScope ["found", "at", "side", "points", "one"] ["found", "at", "side"] (defScope s_points_of) := ⟨rfl, rfl, rfl, by decide +kernel, rfl, by decide +kernel, by decide +kernel⟩
theorem ok_points_of {f : Addr} {fd : FuncData} (F : Fun K "points_of" "points_of" s_points_of f fd) (D_points_of : Df K mg "points_of" s_points_of ["found", "at", "side"] f fd) (T : TX mg) : ∀ k : Nat, FnOk P w K mg base (L2.CX P w) (0 + k) f fd ["found", "at", "side"] (spOf ⟨P, w, K⟩ xm 3 (f_points_of k))
  | 0 => fn_bad rfl
  | k + 1 => by
    have G_points_of := ok_points_of F D_points_of T k
    exact fn_ok (N := ["found", "at", "side", "points", "one"]) (m := false) (b := b_points_of (f_points_of k)) xm F sc_points_of fun cdv A outer s H E W hr tk => (
      ss_cons (ss_if (st_cmp (opr_lt hr) ok_lt (se_var (pv 1)) (se_int)) (ss_one (ss_ret (se_lst (m := false) (sa_cons (se_var (pv 2)) (sa_nil))))) (ss_nil))
    (ss_cons (ss_set (i := 3) sc_points_of.nd rfl (Or.inl rfl) (se_lst (m := true) (sa_nil)))
    (ss_cons (ss_for (passes_of rfl) rfl (si_seq (se_ix ixr ok_ix (se_ix ixr ok_ix (se_ix ixr ok_ix (se_var (pv 0)) (se_var (pv 1))) (se_var (pv 2))) (se_int))) (sg_name (pg_name (i := 4) sc_points_of.nd rfl (Or.inl rfl))) (ss_one (ss_expr (se_extend (se_var (pv 3)) (sa_cons (se_call (fn_pure G_points_of) rfl tk (hr.mono (by first | exact Nat.le_refl _ | (simp only [Nat.add_eq]; omega))) D_points_of.m D_points_of.F.kp D_points_of.b (sa_cons (se_var (pv 0)) (sa_cons (se_bin op_sub ok_sub (se_var (pv 1)) (se_int)) (sa_cons (se_var (pv 4)) (sa_nil)))) (len_cons (len_cons (len_cons len_nil)))) (sa_nil))))))
    (ss_one (ss_ret (se_var (pv 3)))))))
theorem okN_points_of {f : Addr} {fd : FuncData} (F : Fun K "points_of" "points_of" s_points_of f fd) (D_points_of : Df K mg "points_of" s_points_of ["found", "at", "side"] f fd) (T : TX mg) : FnOk P w K mg base (L2.CX P w) 4 f fd ["found", "at", "side"] (spOf ⟨P, w, K⟩ xm 3 f_points_ofN) := by
  have G_points_of := ok_points_of (P := P) (w := w) (base := base) (xm := xm) F D_points_of T 3
  exact fn_okN (N := ["found", "at", "side", "points", "one"]) (b := b_points_of (f_points_of 3)) xm F sc_points_of fun cdv A outer s H E W hr tk => (
      ss_cons (ss_if (st_cmp (opr_lt hr) ok_lt (se_var (pv 1)) (se_int)) (ss_one (ss_ret (se_lst (m := false) (sa_cons (se_var (pv 2)) (sa_nil))))) (ss_nil))
    (ss_cons (ss_set (i := 3) sc_points_of.nd rfl (Or.inl rfl) (se_lst (m := true) (sa_nil)))
    (ss_cons (ss_for (passes_of rfl) rfl (si_seq (se_ix ixr ok_ix (se_ix ixr ok_ix (se_ix ixr ok_ix (se_var (pv 0)) (se_var (pv 1))) (se_var (pv 2))) (se_int))) (sg_name (pg_name (i := 4) sc_points_of.nd rfl (Or.inl rfl))) (ss_one (ss_expr (se_extend (se_var (pv 3)) (sa_cons (se_call (fn_pure G_points_of) rfl tk (hr.mono (by first | exact Nat.le_refl _ | (simp only [Nat.add_eq]; omega))) D_points_of.m D_points_of.F.kp D_points_of.b (sa_cons (se_var (pv 0)) (sa_cons (se_bin op_sub ok_sub (se_var (pv 1)) (se_int)) (sa_cons (se_var (pv 4)) (sa_nil)))) (len_cons (len_cons (len_cons len_nil)))) (sa_nil))))))
    (ss_one (ss_ret (se_var (pv 3)))))))
abbrev s__law_form : Stmt := top 47
theorem sc__law_form : FnScope ["_law_script", "_law_town", "_law_levels", "_law_k"] ["_law_script", "_law_town"] (defScope s__law_form) := ⟨rfl, rfl, rfl, by decide +kernel, rfl, by decide +kernel, by decide +kernel⟩
theorem ok__law_form {f : Addr} {fd : FuncData} (F : Fun K "_law_form" "_law_form" s__law_form f fd) (T : TX mg) {a__law_pick : Addr} {fd__law_pick : FuncData} (D__law_pick : Df K mg "_law_pick" s__law_pick ["_law_script", "_law_town", "_law_some"] a__law_pick fd__law_pick) (G__law_pick : FnOk P w K mg base (L2.CX P w) 2 a__law_pick fd__law_pick ["_law_script", "_law_town", "_law_some"] (spOf ⟨P, w, K⟩ xm 3 f__law_pick)) {a__law_level : Addr} {fd__law_level : FuncData} (D__law_level : Df K mg "_law_level" s__law_level ["_law_script", "_law_town", "_law_most"] a__law_level fd__law_level) (G__law_level : FnOk P w K mg base (L2.CX P w) 3 a__law_level fd__law_level ["_law_script", "_law_town", "_law_most"] (spOf ⟨P, w, K⟩ xm 3 f__law_level)) : FnOk P w K mg base (L2.CX P w) 4 f fd ["_law_script", "_law_town"] (spOf ⟨P, w, K⟩ xm 2 f__law_form) :=
  fn_ok (N := ["_law_script", "_law_town", "_law_levels", "_law_k"]) (m := false) (b := b__law_form) xm F sc__law_form fun cdv A outer s H E W hr tk =>
    ss_cons (ss_set (i := 2) sc__law_form.nd rfl (Or.inr rfl) (se_call G__law_pick rfl tk (hr.mono (by decide)) D__law_pick.m D__law_pick.F.kp D__law_pick.b (sa_cons (se_var (pv 0)) (sa_cons (se_var (pv 1)) (sa_cons (se_lst (m := false) (sa_cons (se_int) (sa_cons (se_int) (sa_cons (se_int) (sa_cons (se_int) (sa_cons (se_int) (sa_nil))))))) (sa_nil)))) (len_cons (len_cons (len_cons len_nil)))))
    (ss_one (ss_ret (se_callTy call_tuple_of ok_tuple (sa_cons (se_lc (m := false) (own := [("_law_k", 3)]) rfl sc__law_form.nd (blkOk_by (N := ["_law_script", "_law_town", "_law_levels", "_law_k"]) (sc := defScope s__law_form) (by decide +kernel)) (by decide) (si_range1 (sa_cons (se_var (pv 2)) (sa_nil)) rfl T.n_range) (fun _ _ _ _ _ => pg_name (i := 3) sc__law_form.nd rfl (Or.inl rfl)) tgk_name (fun _ _ _ _ _ => spt_nil) (fun _ _ _ _ _ => se_call G__law_level rfl takes0 (hr.mono (by decide)) D__law_level.m D__law_level.F.kp D__law_level.b (sa_cons (se_var (pv 0)) (sa_cons (se_var (pv 1)) (sa_cons (se_if (st_cmp (opr_lt hr) ok_lt (se_var (pv 2)) (se_int)) (se_bin op_sub ok_sub (se_int) (se_var (pv 2))) (se_int)) (sa_nil)))) (len_cons (len_cons (len_cons len_nil))))) (sa_nil)) rfl T.n_tuple bt_tuple)))
abbrev s_need_match : Stmt := top 26
theorem sc_need_match : FnScope ["form", "row"] ["form", "row"] (defScope s_need_match) := ⟨rfl, rfl, rfl, by decide +kernel, rfl, by decide +kernel, by decide +kernel⟩
theorem ok_need_match {f : Addr} {fd : FuncData} (F : Fun K "need_match" "need_match" s_need_match f fd) (T : TX mg) {a_need_form : Addr} {fd_need_form : FuncData} (D_need_form : Df K mg "need_form" s_need_form ["value"] a_need_form fd_need_form) (G_need_form : FnOk P w K mg base (L2.CX P w) 4 a_need_form fd_need_form ["value"] (spOf ⟨P, w, K⟩ xm 1 f_need_form)) {a_need_row : Addr} {fd_need_row : FuncData} (D_need_row : Df K mg "need_row" s_need_row ["value"] a_need_row fd_need_row) (G_need_row : FnOk P w K mg base (L2.CX P w) 3 a_need_row fd_need_row ["value"] (spOf ⟨P, w, K⟩ xm 1 f_need_row)) : FnOk P w K mg base (L2.CX P w) 5 f fd ["form", "row"] (spOf ⟨P, w, K⟩ xm 2 f_need_match) :=
  fn_ok (N := ["form", "row"]) (m := false) (b := b_need_match) xm F sc_need_match fun cdv A outer s H E W hr tk =>
    ss_cons (ss_expr (se_call (fn_pure G_need_form) rfl tk (hr.mono (by decide)) D_need_form.m D_need_form.F.kp D_need_form.b (sa_cons (se_var (pv 0)) (sa_nil)) (len_cons len_nil)))
    (ss_one (ss_expr (se_call G_need_row rfl tk (hr.mono (by decide)) D_need_row.m D_need_row.F.kp D_need_row.b (sa_cons (se_var (pv 1)) (sa_nil)) (len_cons len_nil))))
abbrev s_Board___init__ : Stmt := inClass (top 33) 0
theorem sc_Board___init__ : FnScope ["self", "form"] ["self", "form"] (defScope s_Board___init__) := ⟨rfl, rfl, rfl, by decide +kernel, rfl, by decide +kernel, by decide +kernel⟩
theorem ok_Board___init__ {f : Addr} {fd : FuncData} (F : Fun K "__init__" "Board.__init__" s_Board___init__ f fd) (T : TX mg) {C : Addr} (Bc : Bdx K mg C) {a_need_form : Addr} {fd_need_form : FuncData} (D_need_form : Df K mg "need_form" s_need_form ["value"] a_need_form fd_need_form) (G_need_form : FnOk P w K mg base (L2.CX P w) 4 a_need_form fd_need_form ["value"] (spOf ⟨P, w, K⟩ xm 1 f_need_form)) : FnOk P w K mg base (L2.CX P w) 5 f fd ["self", "form"] (spOf ⟨P, w, K⟩ xm 2 f_Board___init__) :=
  fn_okK (N := ["self", "form"]) (b := b_Board___init__) xm F sc_Board___init__ fun cdv A outer s H E W hr tk =>
    ss_cons (ss_expr (se_call (fn_pure G_need_form) rfl tk (hr.mono (by decide)) D_need_form.m D_need_form.F.kp D_need_form.b (sa_cons (se_var (pv 1)) (sa_nil)) (len_cons len_nil)))
    (ss_cons (ss_fld Bc.b (se_var (pv 0)) (se_var (pv 1)))
    (ss_one (ss_fld Bc.b (se_var (pv 0)) (se_lst (m := true) (sa_nil)))))
abbrev s_Board_point : Stmt := inClass (top 33) 1
theorem sc_Board_point : FnScope ["self", "side"] ["self", "side"] (defScope s_Board_point) := ⟨rfl, rfl, rfl, by decide +kernel, rfl, by decide +kernel, by decide +kernel⟩
theorem ok_Board_point {f : Addr} {fd : FuncData} (F : Fun K "point" "Board.point" s_Board_point f fd) (T : TX mg) {C : Addr} (Bc : Bdx K mg C) {a_need_side : Addr} {fd_need_side : FuncData} (D_need_side : Df K mg "need_side" s_need_side ["value"] a_need_side fd_need_side) (G_need_side : FnOk P w K mg base (L2.CX P w) 3 a_need_side fd_need_side ["value"] (spOf ⟨P, w, K⟩ xm 1 f_need_side)) {a_Board_winner : Addr} {fd_Board_winner : FuncData} (D_Board_winner : Dm K C "winner" "Board.winner" s_Board_winner ["self"] a_Board_winner fd_Board_winner) (G_Board_winner : FnOk P w K mg base (L2.CX P w) 4 a_Board_winner fd_Board_winner ["self"] (spOf ⟨P, w, K⟩ xm 1 f_Board_winner)) : FnOk P w K mg base (L2.CX P w) 5 f fd ["self", "side"] (spOf ⟨P, w, K⟩ xm 2 f_Board_point) :=
  fn_ok (N := ["self", "side"]) (m := false) (b := b_Board_point) xm F sc_Board_point fun cdv A outer s H E W hr tk =>
    ss_cons (ss_expr (se_call (fn_pure G_need_side) rfl tk (hr.mono (by decide)) D_need_side.m D_need_side.F.kp D_need_side.b (sa_cons (se_var (pv 1)) (sa_nil)) (len_cons len_nil)))
    (ss_cons (ss_if (st_cmp opr_isN ok_isN (se_meth0 Bc.b D_Board_winner G_Board_winner tk (hr.mono (by decide)) (se_var (pv 0))) (se_non)) (ss_one (ss_bad)) (ss_nil))
    (ss_cons (ss_expr (se_append (se_fld Bc.b (se_var (pv 0))) (sa_cons (se_var (pv 1)) (sa_nil))))
    (ss_one (ss_ret (se_meth0 Bc.b D_Board_winner G_Board_winner tk (hr.mono (by decide)) (se_var (pv 0)))))))
abbrev s_Board_undo : Stmt := inClass (top 33) 2
theorem sc_Board_undo : FnScope ["self"] ["self"] (defScope s_Board_undo) := ⟨rfl, rfl, rfl, by decide +kernel, rfl, by decide +kernel, by decide +kernel⟩
theorem ok_Board_undo {f : Addr} {fd : FuncData} (F : Fun K "undo" "Board.undo" s_Board_undo f fd) (T : TX mg) {C : Addr} (Bc : Bdx K mg C) {a_Board_score : Addr} {fd_Board_score : FuncData} (D_Board_score : Dm K C "score" "Board.score" s_Board_score ["self"] a_Board_score fd_Board_score) (G_Board_score : FnOk P w K mg base (L2.CX P w) 4 a_Board_score fd_Board_score ["self"] (spOf ⟨P, w, K⟩ xm 1 f_Board_score)) : FnOk P w K mg base (L2.CX P w) 5 f fd ["self"] (spOf ⟨P, w, K⟩ xm 1 f_Board_undo) :=
  fn_ok (N := ["self"]) (m := false) (b := b_Board_undo) xm F sc_Board_undo fun cdv A outer s H E W hr tk =>
    ss_cons (ss_if (st_cmp (opr_eq hr) ok_eq (se_fld Bc.b (se_var (pv 0))) (se_lst (m := false) (sa_nil))) (ss_one (ss_bad)) (ss_nil))
    (ss_cons (ss_expr (se_pop (se_fld Bc.b (se_var (pv 0)))))
    (ss_one (ss_ret (se_meth0 Bc.b D_Board_score G_Board_score tk (hr.mono (by decide)) (se_var (pv 0))))))
abbrev s_surplus_row : Stmt := top 39
theorem sc_surplus_row : FnScope ["form", "found"] ["form"] (defScope s_surplus_row) := ⟨rfl, rfl, rfl, by decide +kernel, rfl, by decide +kernel, by decide +kernel⟩
theorem ok_surplus_row {f : Addr} {fd : FuncData} (F : Fun K "surplus_row" "surplus_row" s_surplus_row f fd) (T : TX mg) {a_need_form : Addr} {fd_need_form : FuncData} (D_need_form : Df K mg "need_form" s_need_form ["value"] a_need_form fd_need_form) (G_need_form : FnOk P w K mg base (L2.CX P w) 4 a_need_form fd_need_form ["value"] (spOf ⟨P, w, K⟩ xm 1 f_need_form)) {a_surpluses : Addr} {fd_surpluses : FuncData} (D_surpluses : Df K mg "surpluses" s_surpluses ["form"] a_surpluses fd_surpluses) (G_surpluses : FnOk P w K mg base (L2.CX P w) 4 a_surpluses fd_surpluses ["form"] (spOf ⟨P, w, K⟩ xm 1 f_surpluses)) {a_points_of : Addr} {fd_points_of : FuncData} (D_points_of : Df K mg "points_of" s_points_of ["found", "at", "side"] a_points_of fd_points_of) (G_points_of : FnOk P w K mg base (L2.CX P w) 4 a_points_of fd_points_of ["found", "at", "side"] (spOf ⟨P, w, K⟩ xm 3 (f_points_of 4))) (GN_points_of : FnOk P w K mg base (L2.CX P w) 4 a_points_of fd_points_of ["found", "at", "side"] (spOf ⟨P, w, K⟩ xm 3 f_points_ofN)) : FnOk P w K mg base (L2.CX P w) 5 f fd ["form"] (spOf ⟨P, w, K⟩ xm 1 f_surplus_row) :=
  fn_okN (N := ["form", "found"]) (b := b_surplus_row) xm F sc_surplus_row fun cdv A outer s H E W hr tk =>
    ss_cons (ss_expr (se_call (fn_pure G_need_form) rfl tk (hr.mono (by decide)) D_need_form.m D_need_form.F.kp D_need_form.b (sa_cons (se_var (pv 0)) (sa_nil)) (len_cons len_nil)))
    (ss_cons (ss_set (i := 1) sc_surplus_row.nd rfl (Or.inl rfl) (se_call (fn_pure G_surpluses) rfl tk (hr.mono (by decide)) D_surpluses.m D_surpluses.F.kp D_surpluses.b (sa_cons (se_var (pv 0)) (sa_nil)) (len_cons len_nil)))
    (ss_one (ss_ret (se_if (st_cmp opr_is ok_is (se_var (pv 1)) (se_non)) (se_non) (se_call (fn_pureN GN_points_of) rfl tk (hr.mono (by decide)) D_points_of.m D_points_of.F.kp D_points_of.b (sa_cons (se_var (pv 1)) (sa_cons (se_bin op_sub ok_sub (se_callB call_len ok_len (sa_cons (se_var (pv 0)) (sa_nil)) rfl T.n_len bt_len) (se_int)) (sa_cons (se_int) (sa_nil)))) (len_cons (len_cons (len_cons len_nil))))))))
abbrev s_parting : Stmt := top 42
theorem sc_parting : FnScope ["form", "other", "start", "sources", "level", "later", "key", "side", "one", "two", "reached"] ["form", "other"] (defScope s_parting) := ⟨rfl, rfl, rfl, by decide +kernel, rfl, by decide +kernel, by decide +kernel⟩
theorem ok_parting {f : Addr} {fd : FuncData} (F : Fun K "parting" "parting" s_parting f fd) (T : TX mg) {a_need_form : Addr} {fd_need_form : FuncData} (D_need_form : Df K mg "need_form" s_need_form ["value"] a_need_form fd_need_form) (G_need_form : FnOk P w K mg base (L2.CX P w) 4 a_need_form fd_need_form ["value"] (spOf ⟨P, w, K⟩ xm 1 f_need_form)) {a_start_of : Addr} {fd_start_of : FuncData} (D_start_of : Df K mg "start_of" s_start_of ["form"] a_start_of fd_start_of) (G_start_of : FnOk P w K mg base (L2.CX P w) 1 a_start_of fd_start_of ["form"] (spOf ⟨P, w, K⟩ xm 1 f_start_of)) {a_after : Addr} {fd_after : FuncData} (D_after : Df K mg "after" s_after ["form", "score", "side"] a_after fd_after) (G_after : FnOk P w K mg base (L2.CX P w) 2 a_after fd_after ["form", "score", "side"] (spOf ⟨P, w, K⟩ xm 3 f_after)) {a_settled : Addr} {fd_settled : FuncData} (D_settled : Df K mg "settled" s_settled ["form", "now"] a_settled fd_settled) (G_settled : FnOk P w K mg base (L2.CX P w) 1 a_settled fd_settled ["form", "now"] (spOf ⟨P, w, K⟩ xm 2 f_settled)) {a_row_to : Addr} {fd_row_to : FuncData} (D_row_to : Df K mg "row_to" s_row_to ["sources", "key"] a_row_to fd_row_to) (G_row_to : FnOk P w K mg base (L2.CX P w) 1 a_row_to fd_row_to ["sources", "key"] (spOf ⟨P, w, K⟩ xm 2 f_row_to)) : FnOk P w K mg base (L2.CX P w) 5 f fd ["form", "other"] (spOf ⟨P, w, K⟩ xm 2 f_parting) :=
  fn_okN (N := ["form", "other", "start", "sources", "level", "later", "key", "side", "one", "two", "reached"]) (b := b_parting) xm F sc_parting fun cdv A outer s H E W hr tk =>
    ss_cons (ss_expr (se_call (fn_pure G_need_form) rfl tk (hr.mono (by decide)) D_need_form.m D_need_form.F.kp D_need_form.b (sa_cons (se_var (pv 0)) (sa_nil)) (len_cons len_nil)))
    (ss_cons (ss_expr (se_call (fn_pure G_need_form) rfl tk (hr.mono (by decide)) D_need_form.m D_need_form.F.kp D_need_form.b (sa_cons (se_var (pv 1)) (sa_nil)) (len_cons len_nil)))
    (ss_cons (ss_set (i := 2) sc_parting.nd rfl (Or.inl rfl) (se_tup (sa_cons (se_call (fn_pure G_start_of) rfl tk (hr.mono (by decide)) D_start_of.m D_start_of.F.kp D_start_of.b (sa_cons (se_var (pv 0)) (sa_nil)) (len_cons len_nil)) (sa_cons (se_call (fn_pure G_start_of) rfl tk (hr.mono (by decide)) D_start_of.m D_start_of.F.kp D_start_of.b (sa_cons (se_var (pv 1)) (sa_nil)) (len_cons len_nil)) (sa_nil)))))
    (ss_cons (ss_par2s (i := 3) (j := 4) rfl sc_parting.nd (sa_cons (se_dct1 (hu9 hr) (se_var (pv 2)) (se_non)) (sa_cons (se_lst (m := false) (sa_cons (se_var (pv 2)) (sa_nil))) (sa_nil))) (by decide))
    (ss_cons (ss_while 20000000 (passes_of rfl) (st_cmp (opr_ne hr) ok_ne (se_var (pv 4)) (se_lst (m := false) (sa_nil))) (ss_cons (ss_set (i := 5) sc_parting.nd rfl (Or.inl rfl) (se_lst (m := true) (sa_nil)))
    (ss_cons (ss_forD (passes_of rfl) rfl (se_var (pv 4)) (sg_name (pg_name (i := 6) sc_parting.nd rfl (Or.inl rfl))) (ss_one (ss_for (passes_of rfl) rfl (si_seq (se_tup (sa_cons (se_int) (sa_cons (se_int) (sa_nil))))) (sg_name (pg_name (i := 7) sc_parting.nd rfl (Or.inl rfl))) (ss_cons (ss_par2s (i := 8) (j := 9) rfl sc_parting.nd (sa_cons (se_call (fn_pure G_after) rfl tk (hr.mono (by decide)) D_after.m D_after.F.kp D_after.b (sa_cons (se_var (pv 0)) (sa_cons (se_ix ixr ok_ix (se_var (pv 6)) (se_int)) (sa_cons (se_var (pv 7)) (sa_nil)))) (len_cons (len_cons (len_cons len_nil)))) (sa_cons (se_call (fn_pure G_after) rfl tk (hr.mono (by decide)) D_after.m D_after.F.kp D_after.b (sa_cons (se_var (pv 1)) (sa_cons (se_ix ixr ok_ix (se_var (pv 6)) (se_int)) (sa_cons (se_var (pv 7)) (sa_nil)))) (len_cons (len_cons (len_cons len_nil)))) (sa_nil))) (by decide))
    (ss_cons (ss_if (st_cmp (opr_ne hr) ok_ne (se_ix ixr ok_ix (se_var (pv 8)) (se_int)) (se_ix ixr ok_ix (se_var (pv 9)) (se_int))) (ss_one (ss_ret (se_bin opr_add (ok_add (m := true)) (se_call G_row_to rfl tk (hr.mono (by decide)) D_row_to.m D_row_to.F.kp D_row_to.b (sa_cons (se_var (pv 3)) (sa_cons (se_var (pv 6)) (sa_nil))) (len_cons (len_cons len_nil))) (se_lst (m := false) (sa_cons (se_var (pv 7)) (sa_nil)))))) (ss_nil))
    (ss_cons (ss_set (i := 10) sc_parting.nd rfl (Or.inl rfl) (se_tup (sa_cons (se_call (fn_pure G_settled) rfl tk (hr.mono (by decide)) D_settled.m D_settled.F.kp D_settled.b (sa_cons (se_var (pv 0)) (sa_cons (se_ix ixr ok_ix (se_var (pv 8)) (se_int)) (sa_nil))) (len_cons (len_cons len_nil))) (sa_cons (se_call (fn_pure G_settled) rfl tk (hr.mono (by decide)) D_settled.m D_settled.F.kp D_settled.b (sa_cons (se_var (pv 1)) (sa_cons (se_ix ixr ok_ix (se_var (pv 9)) (se_int)) (sa_nil))) (len_cons (len_cons len_nil))) (sa_nil)))))
    (ss_one (ss_if (st_bool (sw_and (st_cmp opr_is ok_is (se_ix ixr ok_ix (se_var (pv 8)) (se_int)) (se_non)) (sw_and1 (st_cmp (op_ninX (hu9 hr)) ok_ninX (se_var (pv 10)) (se_var (pv 3)))))) (ss_cons (ss_setX (hu9 hr) (se_tup (sa_cons (se_var (pv 6)) (sa_cons (se_var (pv 7)) (sa_nil)))) (se_var (pv 3)) (se_var (pv 10)))
    (ss_one (ss_expr (se_append (se_var (pv 5)) (sa_cons (se_var (pv 10)) (sa_nil)))))) (ss_nil)))))))))
    (ss_one (ss_set (i := 4) sc_parting.nd rfl (Or.inl rfl) (se_var (pv 5)))))))
    (ss_one (ss_ret (se_non)))))))
abbrev s_winner : Stmt := top 27
theorem sc_winner : FnScope ["form", "row"] ["form", "row"] (defScope s_winner) := ⟨rfl, rfl, rfl, by decide +kernel, rfl, by decide +kernel, by decide +kernel⟩
theorem ok_winner {f : Addr} {fd : FuncData} (F : Fun K "winner" "winner" s_winner f fd) (T : TX mg) {a_played : Addr} {fd_played : FuncData} (D_played : Df K mg "played" s_played ["form", "row"] a_played fd_played) (G_played : FnOk P w K mg base (L2.CX P w) 3 a_played fd_played ["form", "row"] (spOf ⟨P, w, K⟩ xm 2 f_played)) {a_need_match : Addr} {fd_need_match : FuncData} (D_need_match : Df K mg "need_match" s_need_match ["form", "row"] a_need_match fd_need_match) (G_need_match : FnOk P w K mg base (L2.CX P w) 5 a_need_match fd_need_match ["form", "row"] (spOf ⟨P, w, K⟩ xm 2 f_need_match)) : FnOk P w K mg base (L2.CX P w) 6 f fd ["form", "row"] (spOf ⟨P, w, K⟩ xm 2 f_winner) :=
  fn_ok (N := ["form", "row"]) (m := false) (b := b_winner) xm F sc_winner fun cdv A outer s H E W hr tk =>
    ss_cons (ss_expr (se_call (fn_pure G_need_match) rfl tk (hr.mono (by decide)) D_need_match.m D_need_match.F.kp D_need_match.b (sa_cons (se_var (pv 0)) (sa_cons (se_var (pv 1)) (sa_nil))) (len_cons (len_cons len_nil))))
    (ss_one (ss_ret (se_ix ixr ok_ix (se_call (fn_pure G_played) rfl tk (hr.mono (by decide)) D_played.m D_played.F.kp D_played.b (sa_cons (se_var (pv 0)) (sa_cons (se_var (pv 1)) (sa_nil))) (len_cons (len_cons len_nil))) (se_int))))
abbrev s_score : Stmt := top 28
theorem sc_score : FnScope ["form", "row"] ["form", "row"] (defScope s_score) := ⟨rfl, rfl, rfl, by decide +kernel, rfl, by decide +kernel, by decide +kernel⟩
theorem ok_score {f : Addr} {fd : FuncData} (F : Fun K "score" "score" s_score f fd) (T : TX mg) {a_played : Addr} {fd_played : FuncData} (D_played : Df K mg "played" s_played ["form", "row"] a_played fd_played) (G_played : FnOk P w K mg base (L2.CX P w) 3 a_played fd_played ["form", "row"] (spOf ⟨P, w, K⟩ xm 2 f_played)) {a_need_match : Addr} {fd_need_match : FuncData} (D_need_match : Df K mg "need_match" s_need_match ["form", "row"] a_need_match fd_need_match) (G_need_match : FnOk P w K mg base (L2.CX P w) 5 a_need_match fd_need_match ["form", "row"] (spOf ⟨P, w, K⟩ xm 2 f_need_match)) : FnOk P w K mg base (L2.CX P w) 6 f fd ["form", "row"] (spOf ⟨P, w, K⟩ xm 2 f_score) :=
  fn_ok (N := ["form", "row"]) (m := false) (b := b_score) xm F sc_score fun cdv A outer s H E W hr tk =>
    ss_cons (ss_expr (se_call G_need_match rfl tk (hr.mono (by decide)) D_need_match.m D_need_match.F.kp D_need_match.b (sa_cons (se_var (pv 0)) (sa_cons (se_var (pv 1)) (sa_nil))) (len_cons (len_cons len_nil))))
    (ss_one (ss_ret (se_ix ixr ok_ix (se_call G_played rfl tk (hr.mono (by decide)) D_played.m D_played.F.kp D_played.b (sa_cons (se_var (pv 0)) (sa_cons (se_var (pv 1)) (sa_nil))) (len_cons (len_cons len_nil))) (se_int))))
abbrev s_match_points : Stmt := top 31
theorem sc_match_points : FnScope ["form", "row", "now", "won", "many", "side"] ["form", "row"] (defScope s_match_points) := ⟨rfl, rfl, rfl, by decide +kernel, rfl, by decide +kernel, by decide +kernel⟩
theorem ok_match_points {f : Addr} {fd : FuncData} (F : Fun K "match_points" "match_points" s_match_points f fd) (T : TX mg) {a_played : Addr} {fd_played : FuncData} (D_played : Df K mg "played" s_played ["form", "row"] a_played fd_played) (G_played : FnOk P w K mg base (L2.CX P w) 3 a_played fd_played ["form", "row"] (spOf ⟨P, w, K⟩ xm 2 f_played)) {a_need_match : Addr} {fd_need_match : FuncData} (D_need_match : Df K mg "need_match" s_need_match ["form", "row"] a_need_match fd_need_match) (G_need_match : FnOk P w K mg base (L2.CX P w) 5 a_need_match fd_need_match ["form", "row"] (spOf ⟨P, w, K⟩ xm 2 f_need_match)) {a_needs_at : Addr} {fd_needs_at : FuncData} (D_needs_at : Df K mg "needs_at" s_needs_at ["form", "now", "won", "side"] a_needs_at fd_needs_at) (G_needs_at : FnOk P w K mg base (L2.CX P w) 3 a_needs_at fd_needs_at ["form", "now", "won", "side"] (spOf ⟨P, w, K⟩ xm 4 f_needs_at)) : FnOk P w K mg base (L2.CX P w) 6 f fd ["form", "row"] (spOf ⟨P, w, K⟩ xm 2 f_match_points) :=
  fn_okN (N := ["form", "row", "now", "won", "many", "side"]) (b := b_match_points) xm F sc_match_points fun cdv A outer s H E W hr tk =>
    ss_cons (ss_expr (se_call G_need_match rfl tk (hr.mono (by decide)) D_need_match.m D_need_match.F.kp D_need_match.b (sa_cons (se_var (pv 0)) (sa_cons (se_var (pv 1)) (sa_nil))) (len_cons (len_cons len_nil))))
    (ss_cons (ss_asgT (sg_tup (n := 3) (sgs_cons (pg_name (i := 2) sc_match_points.nd rfl (Or.inr rfl)) (sgs_cons (pg_name (i := 3) sc_match_points.nd rfl (Or.inr rfl)) (sgs_cons (pg_name (i := 4) sc_match_points.nd rfl (Or.inl rfl)) (sgs_nil)))) rfl rfl) (se_call G_played rfl tk (hr.mono (by decide)) D_played.m D_played.F.kp D_played.b (sa_cons (se_var (pv 0)) (sa_cons (se_var (pv 1)) (sa_nil))) (len_cons (len_cons len_nil))))
    (ss_one (ss_ret (se_lc (m := true) (own := [("side", 5)]) rfl sc_match_points.nd (blkOk_by (N := ["form", "row", "now", "won", "many", "side"]) (sc := defScope s_match_points) (by decide +kernel)) (by decide) (si_seq (se_tup (sa_cons (se_int) (sa_cons (se_int) (sa_nil))))) (fun _ _ _ _ _ => pg_name (i := 5) sc_match_points.nd rfl (Or.inl rfl)) tgk_name (fun _ _ _ _ _ => spt_one (st_cmp (opr_eq hr) ok_eq (se_call (fn_pure G_needs_at) rfl takes0 (hr.mono (by decide)) D_needs_at.m D_needs_at.F.kp D_needs_at.b (sa_cons (se_var (pv 0)) (sa_cons (se_var (pv 2)) (sa_cons (se_var (pv 3)) (sa_cons (se_var (pv 5)) (sa_nil))))) (len_cons (len_cons (len_cons (len_cons len_nil))))) (se_int))) (fun _ _ _ _ _ => se_var (pv 5))))))
abbrev s_Board_copy : Stmt := inClass (top 33) 5
theorem sc_Board_copy : FnScope ["self", "other"] ["self"] (defScope s_Board_copy) := ⟨rfl, rfl, rfl, by decide +kernel, rfl, by decide +kernel, by decide +kernel⟩
theorem ok_Board_copy {f : Addr} {fd : FuncData} (F : Fun K "copy" "Board.copy" s_Board_copy f fd) (T : TX mg) {C : Addr} (Bc : Bdx K mg C) {a_Board___init__ : Addr} {fd_Board___init__ : FuncData} (D_Board___init__ : Dk K C "Board.__init__" s_Board___init__ ["self", "form"] a_Board___init__ fd_Board___init__) (G_Board___init__ : FnOk P w K mg base (L2.CX P w) 5 a_Board___init__ fd_Board___init__ ["self", "form"] (spOf ⟨P, w, K⟩ xm 2 f_Board___init__)) : FnOk P w K mg base (L2.CX P w) 7 f fd ["self"] (spOf ⟨P, w, K⟩ xm 1 f_Board_copy) :=
  fn_okK (N := ["self", "other"]) (b := b_Board_copy) xm F sc_Board_copy fun cdv A outer s H E W hr tk =>
    ss_cons (ss_set (i := 1) sc_Board_copy.nd rfl (Or.inl rfl) (se_make Bc.b D_Board___init__.md G_Board___init__ D_Board___init__.b tk (hr.mono (by decide)) Bc.g (sa_cons (se_fld Bc.b (se_var (pv 0))) (sa_nil)) (lenS_of (len_cons len_nil))))
    (ss_cons (ss_fld Bc.b (se_var (pv 1)) (se_callTy call_list_of (ok_list (m := true)) (sa_cons (se_fld Bc.b (se_var (pv 0))) (sa_nil)) rfl T.n_list bt_list))
    (ss_one (ss_ret (se_var (pv 1)))))
abbrev s__law_answers : Stmt := top 52
theorem sc__law_answers : FnScope ["_law_form_here", "_law_row_here", "_law_other"] ["_law_form_here", "_law_row_here"] (defScope s__law_answers) := ⟨rfl, rfl, rfl, by decide +kernel, rfl, by decide +kernel, by decide +kernel⟩
theorem ok__law_answers {f : Addr} {fd : FuncData} (F : Fun K "_law_answers" "_law_answers" s__law_answers f fd) (T : TX mg) {a_score : Addr} {fd_score : FuncData} (D_score : Df K mg "score" s_score ["form", "row"] a_score fd_score) (G_score : FnOk P w K mg base (L2.CX P w) 6 a_score fd_score ["form", "row"] (spOf ⟨P, w, K⟩ xm 2 f_score)) {a_match_points : Addr} {fd_match_points : FuncData} (D_match_points : Df K mg "match_points" s_match_points ["form", "row"] a_match_points fd_match_points) (G_match_points : FnOk P w K mg base (L2.CX P w) 6 a_match_points fd_match_points ["form", "row"] (spOf ⟨P, w, K⟩ xm 2 f_match_points)) {a_surplus_row : Addr} {fd_surplus_row : FuncData} (D_surplus_row : Df K mg "surplus_row" s_surplus_row ["form"] a_surplus_row fd_surplus_row) (G_surplus_row : FnOk P w K mg base (L2.CX P w) 5 a_surplus_row fd_surplus_row ["form"] (spOf ⟨P, w, K⟩ xm 1 f_surplus_row)) {a_parting : Addr} {fd_parting : FuncData} (D_parting : Df K mg "parting" s_parting ["form", "other"] a_parting fd_parting) (G_parting : FnOk P w K mg base (L2.CX P w) 5 a_parting fd_parting ["form", "other"] (spOf ⟨P, w, K⟩ xm 2 f_parting)) : FnOk P w K mg base (L2.CX P w) 7 f fd ["_law_form_here", "_law_row_here"] (spOf ⟨P, w, K⟩ xm 2 f__law_answers) :=
  fn_ok (N := ["_law_form_here", "_law_row_here", "_law_other"]) (m := false) (b := b__law_answers) xm F sc__law_answers fun cdv A outer s H E W hr tk =>
    ss_cons (ss_set (i := 2) sc__law_answers.nd rfl (Or.inl rfl) (se_bin opr_add (ok_add (m := false)) (se_cut (m := false) (se_var (pv 0)) (so_none) (so_some (se_un un_neg ok_neg (se_int)))) (se_tup (sa_cons (se_tup (sa_cons (se_ix ixr ok_ix (se_ix ixr ok_ix (se_var (pv 0)) (se_un un_neg ok_neg (se_int))) (se_int)) (sa_cons (se_int) (sa_cons (se_non) (sa_nil))))) (sa_nil)))))
    (ss_one (ss_ret (se_lst (m := false) (sa_cons (se_call G_match_points rfl tk (hr.mono (by decide)) D_match_points.m D_match_points.F.kp D_match_points.b (sa_cons (se_var (pv 0)) (sa_cons (se_var (pv 1)) (sa_nil))) (len_cons (len_cons len_nil))) (sa_cons (se_orL (se_call (fn_pureN G_surplus_row) rfl tk (hr.mono (by decide)) D_surplus_row.m D_surplus_row.F.kp D_surplus_row.b (sa_cons (se_var (pv 0)) (sa_nil)) (len_cons len_nil)) (se_lst (m := true) (sa_nil))) (sa_cons (se_orL (se_call (fn_pureN G_parting) rfl tk (hr.mono (by decide)) D_parting.m D_parting.F.kp D_parting.b (sa_cons (se_var (pv 0)) (sa_cons (se_var (pv 2)) (sa_nil))) (len_cons (len_cons len_nil))) (se_lst (m := true) (sa_nil))) (sa_cons (se_callTy call_list_of (ok_list (m := true)) (sa_cons (se_call G_score rfl tk (hr.mono (by decide)) D_score.m D_score.F.kp D_score.b (sa_cons (se_var (pv 0)) (sa_cons (se_var (pv 1)) (sa_nil))) (len_cons (len_cons len_nil))) (sa_nil)) rfl T.n_list bt_list) (sa_nil))))))))
theorem okK__law_answers {f : Addr} {fd : FuncData} (F : Fun K "_law_answers" "_law_answers" s__law_answers f fd) (T : TX mg) {a_score : Addr} {fd_score : FuncData} (D_score : Df K mg "score" s_score ["form", "row"] a_score fd_score) (G_score : FnOk P w K mg base (L2.CX P w) 6 a_score fd_score ["form", "row"] (spOf ⟨P, w, K⟩ xm 2 f_score)) {a_match_points : Addr} {fd_match_points : FuncData} (D_match_points : Df K mg "match_points" s_match_points ["form", "row"] a_match_points fd_match_points) (G_match_points : FnOk P w K mg base (L2.CX P w) 6 a_match_points fd_match_points ["form", "row"] (spOf ⟨P, w, K⟩ xm 2 f_match_points)) {a_surplus_row : Addr} {fd_surplus_row : FuncData} (D_surplus_row : Df K mg "surplus_row" s_surplus_row ["form"] a_surplus_row fd_surplus_row) (G_surplus_row : FnOk P w K mg base (L2.CX P w) 5 a_surplus_row fd_surplus_row ["form"] (spOf ⟨P, w, K⟩ xm 1 f_surplus_row)) {a_parting : Addr} {fd_parting : FuncData} (D_parting : Df K mg "parting" s_parting ["form", "other"] a_parting fd_parting) (G_parting : FnOk P w K mg base (L2.CX P w) 5 a_parting fd_parting ["form", "other"] (spOf ⟨P, w, K⟩ xm 2 f_parting)) : FnOk P w K mg base (L2.CX P w) 7 f fd ["_law_form_here", "_law_row_here"] (spOf ⟨P, w, K⟩ xm 2 f__law_answersK) :=
  fn_okK (N := ["_law_form_here", "_law_row_here", "_law_other"]) (b := b__law_answers) xm F sc__law_answers fun cdv A outer s H E W hr tk =>
    ss_cons (ss_set (i := 2) sc__law_answers.nd rfl (Or.inl rfl) (se_bin opr_add (ok_add (m := false)) (se_cut (m := false) (se_var (pv 0)) (so_none) (so_some (se_un un_neg ok_neg (se_int)))) (se_tup (sa_cons (se_tup (sa_cons (se_ix ixr ok_ix (se_ix ixr ok_ix (se_var (pv 0)) (se_un un_neg ok_neg (se_int))) (se_int)) (sa_cons (se_int) (sa_cons (se_non) (sa_nil))))) (sa_nil)))))
    (ss_one (ss_ret (se_lst (m := false) (sa_cons (se_call G_match_points rfl tk (hr.mono (by decide)) D_match_points.m D_match_points.F.kp D_match_points.b (sa_cons (se_var (pv 0)) (sa_cons (se_var (pv 1)) (sa_nil))) (len_cons (len_cons len_nil))) (sa_cons (se_orL (se_call (fn_pureN G_surplus_row) rfl tk (hr.mono (by decide)) D_surplus_row.m D_surplus_row.F.kp D_surplus_row.b (sa_cons (se_var (pv 0)) (sa_nil)) (len_cons len_nil)) (se_lst (m := true) (sa_nil))) (sa_cons (se_orL (se_call (fn_pureN G_parting) rfl tk (hr.mono (by decide)) D_parting.m D_parting.F.kp D_parting.b (sa_cons (se_var (pv 0)) (sa_cons (se_var (pv 2)) (sa_nil))) (len_cons (len_cons len_nil))) (se_lst (m := true) (sa_nil))) (sa_cons (se_callTy call_list_of (ok_list (m := true)) (sa_cons (se_call G_score rfl tk (hr.mono (by decide)) D_score.m D_score.F.kp D_score.b (sa_cons (se_var (pv 0)) (sa_cons (se_var (pv 1)) (sa_nil))) (len_cons (len_cons len_nil))) (sa_nil)) rfl T.n_list bt_list) (sa_nil))))))))
abbrev s_law : Stmt := top 53
theorem sc_law : FnScope ["_law_script", "_law_town", "_law_form_here", "_law_row_here", "_law_kept", "_law_answers_here", "_law_one", "_law_due", "_law_board", "_law_side", "_law_copy"] ["_law_script"] (defScope s_law) := ⟨rfl, rfl, rfl, by decide +kernel, rfl, by decide +kernel, by decide +kernel⟩
theorem ok_law {f : Addr} {fd : FuncData} (F : Fun K "law" "law" s_law f fd) (T : TX mg) {C : Addr} (Bc : Bdx K mg C) {a_winner : Addr} {fd_winner : FuncData} (D_winner : Df K mg "winner" s_winner ["form", "row"] a_winner fd_winner) (G_winner : FnOk P w K mg base (L2.CX P w) 6 a_winner fd_winner ["form", "row"] (spOf ⟨P, w, K⟩ xm 2 f_winner)) {a__law_form : Addr} {fd__law_form : FuncData} (D__law_form : Df K mg "_law_form" s__law_form ["_law_script", "_law_town"] a__law_form fd__law_form) (G__law_form : FnOk P w K mg base (L2.CX P w) 4 a__law_form fd__law_form ["_law_script", "_law_town"] (spOf ⟨P, w, K⟩ xm 2 f__law_form)) {a__law_play : Addr} {fd__law_play : FuncData} (D__law_play : Df K mg "_law_play" s__law_play ["_law_form_here", "_law_row_here"] a__law_play fd__law_play) (G__law_play : FnOk P w K mg base (L2.CX P w) 3 a__law_play fd__law_play ["_law_form_here", "_law_row_here"] (spOf ⟨P, w, K⟩ xm 2 f__law_play)) {a__law_row : Addr} {fd__law_row : FuncData} (D__law_row : Df K mg "_law_row" s__law_row ["_law_script", "_law_town", "_law_most"] a__law_row fd__law_row) (G__law_row : FnOk P w K mg base (L2.CX P w) 2 a__law_row fd__law_row ["_law_script", "_law_town", "_law_most"] (spOf ⟨P, w, K⟩ xm 3 f__law_row)) {a__law_answers : Addr} {fd__law_answers : FuncData} (D__law_answers : Df K mg "_law_answers" s__law_answers ["_law_form_here", "_law_row_here"] a__law_answers fd__law_answers) (G__law_answers : FnOk P w K mg base (L2.CX P w) 7 a__law_answers fd__law_answers ["_law_form_here", "_law_row_here"] (spOf ⟨P, w, K⟩ xm 2 f__law_answers)) (GK__law_answers : FnOk P w K mg base (L2.CX P w) 7 a__law_answers fd__law_answers ["_law_form_here", "_law_row_here"] (spOf ⟨P, w, K⟩ xm 2 f__law_answersK)) {a_Board___init__ : Addr} {fd_Board___init__ : FuncData} (D_Board___init__ : Dk K C "Board.__init__" s_Board___init__ ["self", "form"] a_Board___init__ fd_Board___init__) (G_Board___init__ : FnOk P w K mg base (L2.CX P w) 5 a_Board___init__ fd_Board___init__ ["self", "form"] (spOf ⟨P, w, K⟩ xm 2 f_Board___init__)) {a_Board_point : Addr} {fd_Board_point : FuncData} (D_Board_point : Dm K C "point" "Board.point" s_Board_point ["self", "side"] a_Board_point fd_Board_point) (G_Board_point : FnOk P w K mg base (L2.CX P w) 5 a_Board_point fd_Board_point ["self", "side"] (spOf ⟨P, w, K⟩ xm 2 f_Board_point)) {a_Board_undo : Addr} {fd_Board_undo : FuncData} (D_Board_undo : Dm K C "undo" "Board.undo" s_Board_undo ["self"] a_Board_undo fd_Board_undo) (G_Board_undo : FnOk P w K mg base (L2.CX P w) 5 a_Board_undo fd_Board_undo ["self"] (spOf ⟨P, w, K⟩ xm 1 f_Board_undo)) {a_Board_score : Addr} {fd_Board_score : FuncData} (D_Board_score : Dm K C "score" "Board.score" s_Board_score ["self"] a_Board_score fd_Board_score) (G_Board_score : FnOk P w K mg base (L2.CX P w) 4 a_Board_score fd_Board_score ["self"] (spOf ⟨P, w, K⟩ xm 1 f_Board_score)) {a_Board_winner : Addr} {fd_Board_winner : FuncData} (D_Board_winner : Dm K C "winner" "Board.winner" s_Board_winner ["self"] a_Board_winner fd_Board_winner) (G_Board_winner : FnOk P w K mg base (L2.CX P w) 4 a_Board_winner fd_Board_winner ["self"] (spOf ⟨P, w, K⟩ xm 1 f_Board_winner)) {a_Board_copy : Addr} {fd_Board_copy : FuncData} (D_Board_copy : Dm K C "copy" "Board.copy" s_Board_copy ["self"] a_Board_copy fd_Board_copy) (G_Board_copy : FnOk P w K mg base (L2.CX P w) 7 a_Board_copy fd_Board_copy ["self"] (spOf ⟨P, w, K⟩ xm 1 f_Board_copy)) {a_Board___len__ : Addr} {fd_Board___len__ : FuncData} (D_Board___len__ : Dm K C "__len__" "Board.__len__" s_Board___len__ ["self"] a_Board___len__ fd_Board___len__) (G_Board___len__ : FnOk P w K mg base (L2.CX P w) 1 a_Board___len__ fd_Board___len__ ["self"] (spOf ⟨P, w, K⟩ xm 1 f_Board___len__)) : FnOk P w K mg base (L2.CX P w) 8 f fd ["_law_script"] (spOf ⟨P, w, K⟩ xm 1 f_law) :=
  fn_ok (N := ["_law_script", "_law_town", "_law_form_here", "_law_row_here", "_law_kept", "_law_answers_here", "_law_one", "_law_due", "_law_board", "_law_side", "_law_copy"]) (m := false) (b := b_law) xm F sc_law fun cdv A outer s H E W hr tk =>
    ss_cons (ss_set (i := 1) sc_law.nd rfl (Or.inl rfl) (se_lst (m := true) (sa_cons (se_int) (sa_cons (se_int) (sa_nil)))))
    (ss_cons (ss_set (i := 2) sc_law.nd rfl (Or.inl rfl) (se_call G__law_form rfl tk (hr.mono (by decide)) D__law_form.m D__law_form.F.kp D__law_form.b (sa_cons (se_var (pv 0)) (sa_cons (se_var (pv 1)) (sa_nil))) (len_cons (len_cons len_nil))))
    (ss_cons (ss_set (i := 3) sc_law.nd rfl (Or.inl rfl) (se_call G__law_row rfl tk (hr.mono (by decide)) D__law_row.m D__law_row.F.kp D__law_row.b (sa_cons (se_var (pv 0)) (sa_cons (se_var (pv 1)) (sa_cons (se_int) (sa_nil)))) (len_cons (len_cons (len_cons len_nil)))))
    (ss_cons (ss_par2s (i := 4) (j := 5) rfl sc_law.nd (sa_cons (se_callTy call_list_of (ok_list (m := false)) (sa_cons (se_var (pv 3)) (sa_nil)) rfl T.n_list bt_list) (sa_cons (se_call GK__law_answers rfl tk (hr.mono (by decide)) D__law_answers.m D__law_answers.F.kp D__law_answers.b (sa_cons (se_var (pv 2)) (sa_cons (se_var (pv 3)) (sa_nil))) (len_cons (len_cons len_nil))) (sa_nil))) (by decide))
    (ss_cons (ss_setLc (i := 7) (m := false) (own := [("_law_one", 6)]) rfl sc_law.nd rfl rfl (sw_true rfl rfl rfl (by decide +kernel)) (blkOk_by (N := ["_law_script", "_law_town", "_law_form_here", "_law_row_here", "_law_kept", "_law_answers_here", "_law_one", "_law_due", "_law_board", "_law_side", "_law_copy"]) (sc := defScope s_law) (by decide +kernel)) (by decide) (si_seq (se_var (pv 5))) (fun _ _ _ _ _ => pg_name (i := 6) sc_law.nd rfl (Or.inl rfl)) tgk_name (fun _ _ _ _ _ => spt_nil) (fun _ _ _ _ _ => se_callTy call_list_of (ok_list (m := false)) (sa_cons (se_var (pv 6)) (sa_nil)) rfl T.n_list bt_list))
    (ss_cons (ss_for (passes_of rfl) rfl (si_seq (se_var (pv 5))) (sg_name (pg_name (i := 6) sc_law.nd rfl (Or.inl rfl))) (ss_one (ss_expr (se_insert (se_var (pv 6)) (sa_cons (se_int) (sa_cons (se_non) (sa_nil)))))))
    (ss_cons (ss_if (st_bool (sw_or (st_cmp (opr_ne hr) ok_ne (se_call G__law_answers rfl tk (hr.mono (by decide)) D__law_answers.m D__law_answers.F.kp D__law_answers.b (sa_cons (se_var (pv 2)) (sa_cons (se_var (pv 3)) (sa_nil))) (len_cons (len_cons len_nil))) (se_var (pv 7))) (sw_or1 (st_cmp (opr_ne hr) ok_ne (se_var (pv 3)) (se_var (pv 4)))))) (ss_one (ss_ret (se_bl))) (ss_nil))
    (ss_cons (ss_set (i := 8) sc_law.nd rfl (Or.inl rfl) (se_make Bc.b D_Board___init__.md G_Board___init__ D_Board___init__.b tk (hr.mono (by decide)) Bc.g (sa_cons (se_var (pv 2)) (sa_nil)) (lenS_of (len_cons len_nil))))
    (ss_cons (ss_for (passes_of rfl) rfl (si_seq (se_cut (m := false) (se_var (pv 3)) (so_none) (so_some (se_ix ixr ok_ix (se_call G__law_play rfl tk (hr.mono (by decide)) D__law_play.m D__law_play.F.kp D__law_play.b (sa_cons (se_var (pv 2)) (sa_cons (se_var (pv 3)) (sa_nil))) (len_cons (len_cons len_nil))) (se_int))))) (sg_name (pg_name (i := 9) sc_law.nd rfl (Or.inl rfl))) (ss_one (ss_expr (se_meth Bc.b D_Board_point G_Board_point tk (hr.mono (by decide)) (se_var (pv 8)) (sa_cons (se_var (pv 9)) (sa_nil)) (lenS_of (len_cons len_nil))))))
    (ss_cons (ss_set (i := 10) sc_law.nd rfl (Or.inl rfl) (se_meth0 Bc.b D_Board_copy G_Board_copy tk (hr.mono (by decide)) (se_var (pv 8))))
    (ss_cons (ss_expr (se_append (se_var (pv 3)) (sa_cons (se_int) (sa_nil))))
    (ss_cons (ss_if (st_bool (sw_or (st_cmp (opr_ne hr) ok_ne (se_meth0 Bc.b D_Board_score G_Board_score tk (hr.mono (by decide)) (se_var (pv 10))) (se_ix ixr ok_ix (se_call (fn_pure G__law_play) rfl tk (hr.mono (by decide)) D__law_play.m D__law_play.F.kp D__law_play.b (sa_cons (se_var (pv 2)) (sa_cons (se_var (pv 4)) (sa_nil))) (len_cons (len_cons len_nil))) (se_int))) (sw_or1 (st_cmp (opr_ne hr) ok_ne (se_meth0 Bc.b D_Board_winner G_Board_winner tk (hr.mono (by decide)) (se_var (pv 8))) (se_ix ixr ok_ix (se_call (fn_pure G__law_play) rfl tk (hr.mono (by decide)) D__law_play.m D__law_play.F.kp D__law_play.b (sa_cons (se_var (pv 2)) (sa_cons (se_var (pv 4)) (sa_nil))) (len_cons (len_cons len_nil))) (se_int)))))) (ss_one (ss_ret (se_bl))) (ss_nil))
    (ss_cons (ss_if (st_cmp op_gt ok_cmpI (se_lenO Bc.b D_Board___len__ G_Board___len__ tk (hr.mono (by decide)) (se_var (pv 10)) T.n_len bt_len) (se_int)) (ss_one (ss_expr (se_meth0 Bc.b D_Board_undo G_Board_undo tk (hr.mono (by decide)) (se_var (pv 10))))) (ss_nil))
    (ss_one (ss_ret (se_and (se_cmp (opr_eq hr) ok_eq (se_meth0 Bc.b D_Board_winner G_Board_winner tk (hr.mono (by decide)) (se_var (pv 8))) (se_call (fn_pure G_winner) rfl tk (hr.mono (by decide)) D_winner.m D_winner.F.kp D_winner.b (sa_cons (se_var (pv 2)) (sa_cons (se_var (pv 4)) (sa_nil))) (len_cons (len_cons len_nil)))) (se_one (se_cmp (opr_eq hr) ok_eq (se_lenO Bc.b D_Board___len__ G_Board___len__ tk (hr.mono (by decide)) (se_var (pv 8)) T.n_len bt_len) (se_ix ixr ok_ix (se_call (fn_pure G__law_play) rfl tk (hr.mono (by decide)) D__law_play.m D__law_play.F.kp D__law_play.b (sa_cons (se_var (pv 2)) (sa_cons (se_var (pv 4)) (sa_nil))) (len_cons (len_cons len_nil))) (se_int)))))))))))))))))))
theorem all_mk {l : PySem.W.OpenLaw} {h : Heap} {fa : Addr} (X : K.In h) (G : h.Ns mainGlobals mg) (hfa : mg "law" = some (.ref fa)) {f1 : Addr} {od1 an1 : Option Addr} {sl1 : Array (Option Value)} {oc1 kV1 dc1 pm1 cd1 ct1 : Value} {f2 : Addr} {od2 an2 : Option Addr} {sl2 : Array (Option Value)} {oc2 kV2 dc2 pm2 cd2 ct2 : Value} {f3 : Addr} {od3 an3 : Option Addr} {sl3 : Array (Option Value)} {oc3 kV3 dc3 pm3 cd3 ct3 : Value} {f4 : Addr} {od4 an4 : Option Addr} {sl4 : Array (Option Value)} {oc4 kV4 dc4 pm4 cd4 ct4 : Value} {f5 : Addr} {od5 an5 : Option Addr} {sl5 : Array (Option Value)} {oc5 kV5 dc5 pm5 cd5 ct5 : Value} {f6 : Addr} {od6 an6 : Option Addr} {sl6 : Array (Option Value)} {oc6 kV6 dc6 pm6 cd6 ct6 : Value} {f7 : Addr} {od7 an7 : Option Addr} {sl7 : Array (Option Value)} {oc7 kV7 dc7 pm7 cd7 ct7 : Value} {f8 : Addr} {od8 an8 : Option Addr} {sl8 : Array (Option Value)} {oc8 kV8 dc8 pm8 cd8 ct8 : Value} {f9 : Addr} {od9 an9 : Option Addr} {sl9 : Array (Option Value)} {oc9 kV9 dc9 pm9 cd9 ct9 : Value} {f10 : Addr} {od10 an10 : Option Addr} {sl10 : Array (Option Value)} {oc10 kV10 dc10 pm10 cd10 ct10 : Value} {f11 : Addr} {od11 an11 : Option Addr} {sl11 : Array (Option Value)} {oc11 kV11 dc11 pm11 cd11 ct11 : Value} {f12 : Addr} {od12 an12 : Option Addr} {sl12 : Array (Option Value)} {oc12 kV12 dc12 pm12 cd12 ct12 : Value} {f13 : Addr} {od13 an13 : Option Addr} {sl13 : Array (Option Value)} {oc13 kV13 dc13 pm13 cd13 ct13 : Value} {f14 : Addr} {od14 an14 : Option Addr} {sl14 : Array (Option Value)} {oc14 kV14 dc14 pm14 cd14 ct14 : Value} {f15 : Addr} {od15 an15 : Option Addr} {sl15 : Array (Option Value)} {oc15 kV15 dc15 pm15 cd15 ct15 : Value} {f16 : Addr} {od16 an16 : Option Addr} {sl16 : Array (Option Value)} {oc16 kV16 dc16 pm16 cd16 ct16 : Value} {f17 : Addr} {od17 an17 : Option Addr} {sl17 : Array (Option Value)} {oc17 kV17 dc17 pm17 cd17 ct17 : Value} {f18 : Addr} {od18 an18 : Option Addr} {sl18 : Array (Option Value)} {oc18 kV18 dc18 pm18 cd18 ct18 : Value} {f19 : Addr} {od19 an19 : Option Addr} {sl19 : Array (Option Value)} {oc19 kV19 dc19 pm19 cd19 ct19 : Value} {f20 : Addr} {od20 an20 : Option Addr} {sl20 : Array (Option Value)} {oc20 kV20 dc20 pm20 cd20 ct20 : Value} {f21 : Addr} {od21 an21 : Option Addr} {sl21 : Array (Option Value)} {oc21 kV21 dc21 pm21 cd21 ct21 : Value} {f22 : Addr} {od22 an22 : Option Addr} {sl22 : Array (Option Value)} {oc22 kV22 dc22 pm22 cd22 ct22 : Value} {f23 : Addr} {od23 an23 : Option Addr} {sl23 : Array (Option Value)} {oc23 kV23 dc23 pm23 cd23 ct23 : Value} {f24 : Addr} {od24 an24 : Option Addr} {sl24 : Array (Option Value)} {oc24 kV24 dc24 pm24 cd24 ct24 : Value} {f25 : Addr} {od25 an25 : Option Addr} {sl25 : Array (Option Value)} {oc25 kV25 dc25 pm25 cd25 ct25 : Value} {f26 : Addr} {od26 an26 : Option Addr} {sl26 : Array (Option Value)} {oc26 kV26 dc26 pm26 cd26 ct26 : Value} {f27 : Addr} {od27 an27 : Option Addr} {sl27 : Array (Option Value)} {oc27 kV27 dc27 pm27 cd27 ct27 : Value} {f28 : Addr} {od28 an28 : Option Addr} {sl28 : Array (Option Value)} {oc28 kV28 dc28 pm28 cd28 ct28 : Value} {f29 : Addr} {od29 an29 : Option Addr} {sl29 : Array (Option Value)} {oc29 kV29 dc29 pm29 cd29 ct29 : Value} {f30 : Addr} {od30 an30 : Option Addr} {sl30 : Array (Option Value)} {oc30 kV30 dc30 pm30 cd30 ct30 : Value} {f31 : Addr} {od31 an31 : Option Addr} {sl31 : Array (Option Value)} {oc31 kV31 dc31 pm31 cd31 ct31 : Value} {f32 : Addr} {od32 an32 : Option Addr} {sl32 : Array (Option Value)} {oc32 kV32 dc32 pm32 cd32 ct32 : Value} {f33 : Addr} {od33 an33 : Option Addr} {sl33 : Array (Option Value)} {oc33 kV33 dc33 pm33 cd33 ct33 : Value} {f34 : Addr} {od34 an34 : Option Addr} {sl34 : Array (Option Value)} {oc34 kV34 dc34 pm34 cd34 ct34 : Value} {f35 : Addr} {od35 an35 : Option Addr} {sl35 : Array (Option Value)} {oc35 kV35 dc35 pm35 cd35 ct35 : Value} {f36 : Addr} {od36 an36 : Option Addr} {sl36 : Array (Option Value)} {oc36 kV36 dc36 pm36 cd36 ct36 : Value} {f37 : Addr} {od37 an37 : Option Addr} {sl37 : Array (Option Value)} {oc37 kV37 dc37 pm37 cd37 ct37 : Value} {f38 : Addr} {od38 an38 : Option Addr} {sl38 : Array (Option Value)} {oc38 kV38 dc38 pm38 cd38 ct38 : Value} {f39 : Addr} {od39 an39 : Option Addr} {sl39 : Array (Option Value)} {oc39 kV39 dc39 pm39 cd39 ct39 : Value} {f40 : Addr} {od40 an40 : Option Addr} {sl40 : Array (Option Value)} {oc40 kV40 dc40 pm40 cd40 ct40 : Value} {f41 : Addr} {od41 an41 : Option Addr} {sl41 : Array (Option Value)} {oc41 kV41 dc41 pm41 cd41 ct41 : Value} {f42 : Addr} {od42 an42 : Option Addr} {sl42 : Array (Option Value)} {oc42 kV42 dc42 pm42 cd42 ct42 : Value} {C : Addr} (aC : PySem.W.nsIn K mainGlobals "Board" = some (some (.ref C))) (pgC : PySem.W.plainGet K C Str.empty = true) (hdC : PySem.W.hasDictIn K C = true) (poC : PySem.W.plainOver K C = true) (saC : PySem.W.findIn K (.ref C) "__setattr__" = some (some (.builtin "object.__setattr__"))) (mkC : PySem.W.makesIn K C = true) (kcC : PySem.W.keepIn K (.ref C) = true) (nFC : PySem.W.findIn K (.ref C) "form" = some none) (nPC : PySem.W.findIn K (.ref C) "points" = some none) (a1 : PySem.W.nsIn K mainGlobals "is_count" = some (some (.ref f1))) (l1 : K.lookup f1 = some ⟨oc1, od1, .func (PySem.W.fnOf "is_count" "is_count" (defArgs s_is_count) (defBody s_is_count) (defScope s_is_count) .none kV1 dc1 pm1 an1 cd1 ct1), sl1⟩) (c1 : PySem.W.codeIn K cd1 "is_count" = true) (k1 : PySem.W.keepIn K (.ref f1) = true) (a2 : PySem.W.nsIn K mainGlobals "round_winner" = some (some (.ref f2))) (l2 : K.lookup f2 = some ⟨oc2, od2, .func (PySem.W.fnOf "round_winner" "round_winner" (defArgs s_round_winner) (defBody s_round_winner) (defScope s_round_winner) .none kV2 dc2 pm2 an2 cd2 ct2), sl2⟩) (c2 : PySem.W.codeIn K cd2 "round_winner" = true) (k2 : PySem.W.keepIn K (.ref f2) = true) (a3 : PySem.W.nsIn K mainGlobals "start_of" = some (some (.ref f3))) (l3 : K.lookup f3 = some ⟨oc3, od3, .func (PySem.W.fnOf "start_of" "start_of" (defArgs s_start_of) (defBody s_start_of) (defScope s_start_of) .none kV3 dc3 pm3 an3 cd3 ct3), sl3⟩) (c3 : PySem.W.codeIn K cd3 "start_of" = true) (k3 : PySem.W.keepIn K (.ref f3) = true) (a4 : PySem.W.nsIn K mainGlobals "plus" = some (some (.ref f4))) (l4 : K.lookup f4 = some ⟨oc4, od4, .func (PySem.W.fnOf "plus" "plus" (defArgs s_plus) (defBody s_plus) (defScope s_plus) .none kV4 dc4 pm4 an4 cd4 ct4), sl4⟩) (c4 : PySem.W.codeIn K cd4 "plus" = true) (k4 : PySem.W.keepIn K (.ref f4) = true) (a5 : PySem.W.nsIn K mainGlobals "settled" = some (some (.ref f5))) (l5 : K.lookup f5 = some ⟨oc5, od5, .func (PySem.W.fnOf "settled" "settled" (defArgs s_settled) (defBody s_settled) (defScope s_settled) .none kV5 dc5 pm5 an5 cd5 ct5), sl5⟩) (c5 : PySem.W.codeIn K cd5 "settled" = true) (k5 : PySem.W.keepIn K (.ref f5) = true) (a6 : PySem.W.findIn K (.ref C) "__len__" = some (some (.ref f6))) (i6 : PySem.W.isFn K (.ref f6) = true) (l6 : K.lookup f6 = some ⟨oc6, od6, .func (PySem.W.fnOf "__len__" "Board.__len__" (defArgs s_Board___len__) (defBody s_Board___len__) (defScope s_Board___len__) .none kV6 dc6 pm6 an6 cd6 ct6), sl6⟩) (c6 : PySem.W.codeIn K cd6 "Board.__len__" = true) (k6 : PySem.W.keepIn K (.ref f6) = true) (a7 : PySem.W.nsIn K mainGlobals "row_to" = some (some (.ref f7))) (l7 : K.lookup f7 = some ⟨oc7, od7, .func (PySem.W.fnOf "row_to" "row_to" (defArgs s_row_to) (defBody s_row_to) (defScope s_row_to) .none kV7 dc7 pm7 an7 cd7 ct7), sl7⟩) (c7 : PySem.W.codeIn K cd7 "row_to" = true) (k7 : PySem.W.keepIn K (.ref f7) = true) (a8 : PySem.W.nsIn K mainGlobals "_law_draw" = some (some (.ref f8))) (l8 : K.lookup f8 = some ⟨oc8, od8, .func (PySem.W.fnOf "_law_draw" "_law_draw" (defArgs s__law_draw) (defBody s__law_draw) (defScope s__law_draw) .none kV8 dc8 pm8 an8 cd8 ct8), sl8⟩) (c8 : PySem.W.codeIn K cd8 "_law_draw" = true) (k8 : PySem.W.keepIn K (.ref f8) = true) (a9 : PySem.W.nsIn K mainGlobals "_law_won" = some (some (.ref f9))) (l9 : K.lookup f9 = some ⟨oc9, od9, .func (PySem.W.fnOf "_law_won" "_law_won" (defArgs s__law_won) (defBody s__law_won) (defScope s__law_won) .none kV9 dc9 pm9 an9 cd9 ct9), sl9⟩) (c9 : PySem.W.codeIn K cd9 "_law_won" = true) (k9 : PySem.W.keepIn K (.ref f9) = true) (a10 : PySem.W.nsIn K mainGlobals "is_level" = some (some (.ref f10))) (l10 : K.lookup f10 = some ⟨oc10, od10, .func (PySem.W.fnOf "is_level" "is_level" (defArgs s_is_level) (defBody s_is_level) (defScope s_is_level) .none kV10 dc10 pm10 an10 cd10 ct10), sl10⟩) (c10 : PySem.W.codeIn K cd10 "is_level" = true) (k10 : PySem.W.keepIn K (.ref f10) = true) (a11 : PySem.W.nsIn K mainGlobals "is_side" = some (some (.ref f11))) (l11 : K.lookup f11 = some ⟨oc11, od11, .func (PySem.W.fnOf "is_side" "is_side" (defArgs s_is_side) (defBody s_is_side) (defScope s_is_side) .none kV11 dc11 pm11 an11 cd11 ct11), sl11⟩) (c11 : PySem.W.codeIn K cd11 "is_side" = true) (k11 : PySem.W.keepIn K (.ref f11) = true) (a12 : PySem.W.nsIn K mainGlobals "after" = some (some (.ref f12))) (l12 : K.lookup f12 = some ⟨oc12, od12, .func (PySem.W.fnOf "after" "after" (defArgs s_after) (defBody s_after) (defScope s_after) .none kV12 dc12 pm12 an12 cd12 ct12), sl12⟩) (c12 : PySem.W.codeIn K cd12 "after" = true) (k12 : PySem.W.keepIn K (.ref f12) = true) (a13 : PySem.W.nsIn K mainGlobals "rounds" = some (some (.ref f13))) (l13 : K.lookup f13 = some ⟨oc13, od13, .func (PySem.W.fnOf "rounds" "rounds" (defArgs s_rounds) (defBody s_rounds) (defScope s_rounds) .none kV13 dc13 pm13 an13 cd13 ct13), sl13⟩) (c13 : PySem.W.codeIn K cd13 "rounds" = true) (k13 : PySem.W.keepIn K (.ref f13) = true) (a14 : PySem.W.nsIn K mainGlobals "_law_pick" = some (some (.ref f14))) (l14 : K.lookup f14 = some ⟨oc14, od14, .func (PySem.W.fnOf "_law_pick" "_law_pick" (defArgs s__law_pick) (defBody s__law_pick) (defScope s__law_pick) .none kV14 dc14 pm14 an14 cd14 ct14), sl14⟩) (c14 : PySem.W.codeIn K cd14 "_law_pick" = true) (k14 : PySem.W.keepIn K (.ref f14) = true) (a15 : PySem.W.nsIn K mainGlobals "_law_after" = some (some (.ref f15))) (l15 : K.lookup f15 = some ⟨oc15, od15, .func (PySem.W.fnOf "_law_after" "_law_after" (defArgs s__law_after) (defBody s__law_after) (defScope s__law_after) .none kV15 dc15 pm15 an15 cd15 ct15), sl15⟩) (c15 : PySem.W.codeIn K cd15 "_law_after" = true) (k15 : PySem.W.keepIn K (.ref f15) = true) (a16 : PySem.W.nsIn K mainGlobals "_law_row" = some (some (.ref f16))) (l16 : K.lookup f16 = some ⟨oc16, od16, .func (PySem.W.fnOf "_law_row" "_law_row" (defArgs s__law_row) (defBody s__law_row) (defScope s__law_row) .none kV16 dc16 pm16 an16 cd16 ct16), sl16⟩) (c16 : PySem.W.codeIn K cd16 "_law_row" = true) (k16 : PySem.W.keepIn K (.ref f16) = true) (a17 : PySem.W.nsIn K mainGlobals "is_form" = some (some (.ref f17))) (l17 : K.lookup f17 = some ⟨oc17, od17, .func (PySem.W.fnOf "is_form" "is_form" (defArgs s_is_form) (defBody s_is_form) (defScope s_is_form) .none kV17 dc17 pm17 an17 cd17 ct17), sl17⟩) (c17 : PySem.W.codeIn K cd17 "is_form" = true) (k17 : PySem.W.keepIn K (.ref f17) = true) (a18 : PySem.W.nsIn K mainGlobals "need_side" = some (some (.ref f18))) (l18 : K.lookup f18 = some ⟨oc18, od18, .func (PySem.W.fnOf "need_side" "need_side" (defArgs s_need_side) (defBody s_need_side) (defScope s_need_side) .none kV18 dc18 pm18 an18 cd18 ct18), sl18⟩) (c18 : PySem.W.codeIn K cd18 "need_side" = true) (k18 : PySem.W.keepIn K (.ref f18) = true) (a19 : PySem.W.nsIn K mainGlobals "need_row" = some (some (.ref f19))) (l19 : K.lookup f19 = some ⟨oc19, od19, .func (PySem.W.fnOf "need_row" "need_row" (defArgs s_need_row) (defBody s_need_row) (defScope s_need_row) .none kV19 dc19 pm19 an19 cd19 ct19), sl19⟩) (c19 : PySem.W.codeIn K cd19 "need_row" = true) (k19 : PySem.W.keepIn K (.ref f19) = true) (a20 : PySem.W.nsIn K mainGlobals "played" = some (some (.ref f20))) (l20 : K.lookup f20 = some ⟨oc20, od20, .func (PySem.W.fnOf "played" "played" (defArgs s_played) (defBody s_played) (defScope s_played) .none kV20 dc20 pm20 an20 cd20 ct20), sl20⟩) (c20 : PySem.W.codeIn K cd20 "played" = true) (k20 : PySem.W.keepIn K (.ref f20) = true) (a21 : PySem.W.nsIn K mainGlobals "needs_at" = some (some (.ref f21))) (l21 : K.lookup f21 = some ⟨oc21, od21, .func (PySem.W.fnOf "needs_at" "needs_at" (defArgs s_needs_at) (defBody s_needs_at) (defScope s_needs_at) .none kV21 dc21 pm21 an21 cd21 ct21), sl21⟩) (c21 : PySem.W.codeIn K cd21 "needs_at" = true) (k21 : PySem.W.keepIn K (.ref f21) = true) (a22 : PySem.W.nsIn K mainGlobals "best_row" = some (some (.ref f22))) (l22 : K.lookup f22 = some ⟨oc22, od22, .func (PySem.W.fnOf "best_row" "best_row" (defArgs s_best_row) (defBody s_best_row) (defScope s_best_row) .none kV22 dc22 pm22 an22 cd22 ct22), sl22⟩) (c22 : PySem.W.codeIn K cd22 "best_row" = true) (k22 : PySem.W.keepIn K (.ref f22) = true) (a23 : PySem.W.nsIn K mainGlobals "_law_level" = some (some (.ref f23))) (l23 : K.lookup f23 = some ⟨oc23, od23, .func (PySem.W.fnOf "_law_level" "_law_level" (defArgs s__law_level) (defBody s__law_level) (defScope s__law_level) .none kV23 dc23 pm23 an23 cd23 ct23), sl23⟩) (c23 : PySem.W.codeIn K cd23 "_law_level" = true) (k23 : PySem.W.keepIn K (.ref f23) = true) (a24 : PySem.W.nsIn K mainGlobals "_law_play" = some (some (.ref f24))) (l24 : K.lookup f24 = some ⟨oc24, od24, .func (PySem.W.fnOf "_law_play" "_law_play" (defArgs s__law_play) (defBody s__law_play) (defScope s__law_play) .none kV24 dc24 pm24 an24 cd24 ct24), sl24⟩) (c24 : PySem.W.codeIn K cd24 "_law_play" = true) (k24 : PySem.W.keepIn K (.ref f24) = true) (a25 : PySem.W.nsIn K mainGlobals "need_form" = some (some (.ref f25))) (l25 : K.lookup f25 = some ⟨oc25, od25, .func (PySem.W.fnOf "need_form" "need_form" (defArgs s_need_form) (defBody s_need_form) (defScope s_need_form) .none kV25 dc25 pm25 an25 cd25 ct25), sl25⟩) (c25 : PySem.W.codeIn K cd25 "need_form" = true) (k25 : PySem.W.keepIn K (.ref f25) = true) (a26 : PySem.W.findIn K (.ref C) "score" = some (some (.ref f26))) (i26 : PySem.W.isFn K (.ref f26) = true) (l26 : K.lookup f26 = some ⟨oc26, od26, .func (PySem.W.fnOf "score" "Board.score" (defArgs s_Board_score) (defBody s_Board_score) (defScope s_Board_score) .none kV26 dc26 pm26 an26 cd26 ct26), sl26⟩) (c26 : PySem.W.codeIn K cd26 "Board.score" = true) (k26 : PySem.W.keepIn K (.ref f26) = true) (a27 : PySem.W.findIn K (.ref C) "winner" = some (some (.ref f27))) (i27 : PySem.W.isFn K (.ref f27) = true) (l27 : K.lookup f27 = some ⟨oc27, od27, .func (PySem.W.fnOf "winner" "Board.winner" (defArgs s_Board_winner) (defBody s_Board_winner) (defScope s_Board_winner) .none kV27 dc27 pm27 an27 cd27 ct27), sl27⟩) (c27 : PySem.W.codeIn K cd27 "Board.winner" = true) (k27 : PySem.W.keepIn K (.ref f27) = true) (a28 : PySem.W.nsIn K mainGlobals "surpluses" = some (some (.ref f28))) (l28 : K.lookup f28 = some ⟨oc28, od28, .func (PySem.W.fnOf "surpluses" "surpluses" (defArgs s_surpluses) (defBody s_surpluses) (defScope s_surpluses) .none kV28 dc28 pm28 an28 cd28 ct28), sl28⟩) (c28 : PySem.W.codeIn K cd28 "surpluses" = true) (k28 : PySem.W.keepIn K (.ref f28) = true) (a29 : PySem.W.nsIn K mainGlobals "points_of" = some (some (.ref f29))) (l29 : K.lookup f29 = some ⟨oc29, od29, .func (PySem.W.fnOf "points_of" "points_of" (defArgs s_points_of) (defBody s_points_of) (defScope s_points_of) .none kV29 dc29 pm29 an29 cd29 ct29), sl29⟩) (c29 : PySem.W.codeIn K cd29 "points_of" = true) (k29 : PySem.W.keepIn K (.ref f29) = true) (a30 : PySem.W.nsIn K mainGlobals "_law_form" = some (some (.ref f30))) (l30 : K.lookup f30 = some ⟨oc30, od30, .func (PySem.W.fnOf "_law_form" "_law_form" (defArgs s__law_form) (defBody s__law_form) (defScope s__law_form) .none kV30 dc30 pm30 an30 cd30 ct30), sl30⟩) (c30 : PySem.W.codeIn K cd30 "_law_form" = true) (k30 : PySem.W.keepIn K (.ref f30) = true) (a31 : PySem.W.nsIn K mainGlobals "need_match" = some (some (.ref f31))) (l31 : K.lookup f31 = some ⟨oc31, od31, .func (PySem.W.fnOf "need_match" "need_match" (defArgs s_need_match) (defBody s_need_match) (defScope s_need_match) .none kV31 dc31 pm31 an31 cd31 ct31), sl31⟩) (c31 : PySem.W.codeIn K cd31 "need_match" = true) (k31 : PySem.W.keepIn K (.ref f31) = true) (a32 : PySem.W.findIn K (.ref C) "__init__" = some (some (.ref f32))) (i32 : PySem.W.isFn K (.ref f32) = true) (l32 : K.lookup f32 = some ⟨oc32, od32, .func (PySem.W.fnOf "__init__" "Board.__init__" (defArgs s_Board___init__) (defBody s_Board___init__) (defScope s_Board___init__) .none kV32 dc32 pm32 an32 cd32 ct32), sl32⟩) (c32 : PySem.W.codeIn K cd32 "Board.__init__" = true) (k32 : PySem.W.keepIn K (.ref f32) = true) (a33 : PySem.W.findIn K (.ref C) "point" = some (some (.ref f33))) (i33 : PySem.W.isFn K (.ref f33) = true) (l33 : K.lookup f33 = some ⟨oc33, od33, .func (PySem.W.fnOf "point" "Board.point" (defArgs s_Board_point) (defBody s_Board_point) (defScope s_Board_point) .none kV33 dc33 pm33 an33 cd33 ct33), sl33⟩) (c33 : PySem.W.codeIn K cd33 "Board.point" = true) (k33 : PySem.W.keepIn K (.ref f33) = true) (a34 : PySem.W.findIn K (.ref C) "undo" = some (some (.ref f34))) (i34 : PySem.W.isFn K (.ref f34) = true) (l34 : K.lookup f34 = some ⟨oc34, od34, .func (PySem.W.fnOf "undo" "Board.undo" (defArgs s_Board_undo) (defBody s_Board_undo) (defScope s_Board_undo) .none kV34 dc34 pm34 an34 cd34 ct34), sl34⟩) (c34 : PySem.W.codeIn K cd34 "Board.undo" = true) (k34 : PySem.W.keepIn K (.ref f34) = true) (a35 : PySem.W.nsIn K mainGlobals "surplus_row" = some (some (.ref f35))) (l35 : K.lookup f35 = some ⟨oc35, od35, .func (PySem.W.fnOf "surplus_row" "surplus_row" (defArgs s_surplus_row) (defBody s_surplus_row) (defScope s_surplus_row) .none kV35 dc35 pm35 an35 cd35 ct35), sl35⟩) (c35 : PySem.W.codeIn K cd35 "surplus_row" = true) (k35 : PySem.W.keepIn K (.ref f35) = true) (a36 : PySem.W.nsIn K mainGlobals "parting" = some (some (.ref f36))) (l36 : K.lookup f36 = some ⟨oc36, od36, .func (PySem.W.fnOf "parting" "parting" (defArgs s_parting) (defBody s_parting) (defScope s_parting) .none kV36 dc36 pm36 an36 cd36 ct36), sl36⟩) (c36 : PySem.W.codeIn K cd36 "parting" = true) (k36 : PySem.W.keepIn K (.ref f36) = true) (a37 : PySem.W.nsIn K mainGlobals "winner" = some (some (.ref f37))) (l37 : K.lookup f37 = some ⟨oc37, od37, .func (PySem.W.fnOf "winner" "winner" (defArgs s_winner) (defBody s_winner) (defScope s_winner) .none kV37 dc37 pm37 an37 cd37 ct37), sl37⟩) (c37 : PySem.W.codeIn K cd37 "winner" = true) (k37 : PySem.W.keepIn K (.ref f37) = true) (a38 : PySem.W.nsIn K mainGlobals "score" = some (some (.ref f38))) (l38 : K.lookup f38 = some ⟨oc38, od38, .func (PySem.W.fnOf "score" "score" (defArgs s_score) (defBody s_score) (defScope s_score) .none kV38 dc38 pm38 an38 cd38 ct38), sl38⟩) (c38 : PySem.W.codeIn K cd38 "score" = true) (k38 : PySem.W.keepIn K (.ref f38) = true) (a39 : PySem.W.nsIn K mainGlobals "match_points" = some (some (.ref f39))) (l39 : K.lookup f39 = some ⟨oc39, od39, .func (PySem.W.fnOf "match_points" "match_points" (defArgs s_match_points) (defBody s_match_points) (defScope s_match_points) .none kV39 dc39 pm39 an39 cd39 ct39), sl39⟩) (c39 : PySem.W.codeIn K cd39 "match_points" = true) (k39 : PySem.W.keepIn K (.ref f39) = true) (a40 : PySem.W.findIn K (.ref C) "copy" = some (some (.ref f40))) (i40 : PySem.W.isFn K (.ref f40) = true) (l40 : K.lookup f40 = some ⟨oc40, od40, .func (PySem.W.fnOf "copy" "Board.copy" (defArgs s_Board_copy) (defBody s_Board_copy) (defScope s_Board_copy) .none kV40 dc40 pm40 an40 cd40 ct40), sl40⟩) (c40 : PySem.W.codeIn K cd40 "Board.copy" = true) (k40 : PySem.W.keepIn K (.ref f40) = true) (a41 : PySem.W.nsIn K mainGlobals "_law_answers" = some (some (.ref f41))) (l41 : K.lookup f41 = some ⟨oc41, od41, .func (PySem.W.fnOf "_law_answers" "_law_answers" (defArgs s__law_answers) (defBody s__law_answers) (defScope s__law_answers) .none kV41 dc41 pm41 an41 cd41 ct41), sl41⟩) (c41 : PySem.W.codeIn K cd41 "_law_answers" = true) (k41 : PySem.W.keepIn K (.ref f41) = true) (a42 : PySem.W.nsIn K mainGlobals "law" = some (some (.ref f42))) (l42 : K.lookup f42 = some ⟨oc42, od42, .func (PySem.W.fnOf "law" "law" (defArgs s_law) (defBody s_law) (defScope s_law) .none kV42 dc42 pm42 an42 cd42 ct42), sl42⟩) (c42 : PySem.W.codeIn K cd42 "law" = true) (k42 : PySem.W.keepIn K (.ref f42) = true) (z_all : PySem.W.nsIn K mainGlobals "all" = some none) (z_bool : PySem.W.nsIn K mainGlobals "bool" = some none) (z_enumerate : PySem.W.nsIn K mainGlobals "enumerate" = some none) (z_int : PySem.W.nsIn K mainGlobals "int" = some none) (z_isinstance : PySem.W.nsIn K mainGlobals "isinstance" = some none) (z_len : PySem.W.nsIn K mainGlobals "len" = some none) (z_list : PySem.W.nsIn K mainGlobals "list" = some none) (z_max : PySem.W.nsIn K mainGlobals "max" = some none) (z_min : PySem.W.nsIn K mainGlobals "min" = some none) (z_range : PySem.W.nsIn K mainGlobals "range" = some none) (z_sum : PySem.W.nsIn K mainGlobals "sum" = some none) (z_tuple : PySem.W.nsIn K mainGlobals "tuple" = some none) (z_zip : PySem.W.nsIn K mainGlobals "zip" = some none) {t_TARGET : Tok} (z_TARGET : PySem.W.nsIn K mainGlobals "TARGET" = some (some (.int 5 t_TARGET))) {t_LEAD : Tok} (z_LEAD : PySem.W.nsIn K mainGlobals "LEAD" = some (some (.int 3 t_LEAD))) {t_CAP : Tok} (z_CAP : PySem.W.nsIn K mainGlobals "CAP" = some (some (.int 9 t_CAP))) {t_LEVELS : Tok} (z_LEVELS : PySem.W.nsIn K mainGlobals "LEVELS" = some (some (.int 3 t_LEVELS))) {t_POINTS : Tok} (z_POINTS : PySem.W.nsIn K mainGlobals "POINTS" = some (some (.int 200 t_POINTS))) :
    ∃ fd : FuncData, (∀ (s : Shared) (v : Value), BindsTo s fd ⟨[v], []⟩ [("_law_script", v)]) ∧ ∀ base : Heap, K.In base → base.Ns mainGlobals mg → FnOk l.prog w K mg base (L2.CX l.prog w) 8 fa fd ["_law_script"] (spOf ⟨l.prog, w, K⟩ (xm) 1 f_law) := by
  have e := hfa.symm.trans (PySem.W.mg_of X G a42)
  cases e
  have T : TX mg := ⟨PySem.W.mg_none_of X G z_all, PySem.W.mg_none_of X G z_bool, PySem.W.mg_none_of X G z_enumerate, PySem.W.mg_none_of X G z_int, PySem.W.mg_none_of X G z_isinstance, PySem.W.mg_none_of X G z_len, PySem.W.mg_none_of X G z_list, PySem.W.mg_none_of X G z_max, PySem.W.mg_none_of X G z_min, PySem.W.mg_none_of X G z_range, PySem.W.mg_none_of X G z_sum, PySem.W.mg_none_of X G z_tuple, PySem.W.mg_none_of X G z_zip, ⟨_, PySem.W.mg_of X G z_TARGET⟩, ⟨_, PySem.W.mg_of X G z_LEAD⟩, ⟨_, PySem.W.mg_of X G z_CAP⟩, ⟨_, PySem.W.mg_of X G z_LEVELS⟩, ⟨_, PySem.W.mg_of X G z_POINTS⟩⟩
  have Bc : Bdx K mg C := ⟨⟨aC, ⟨pgC, hdC, poC, saC⟩, nFC, nPC⟩, PySem.W.mg_of X G aC⟩
  have F1 := fun_mk (st := s_is_count) l1 c1 k1
  have D1 : Df K mg "is_count" s_is_count ["value", "least", "most"] _ _ := ⟨F1, PySem.W.mg_of X G a1, F1.binds (ps := ["value", "least", "most"]) fun _ _ _ _ _ _ us hl => match us, hl with | [_, _, _], _ => rfl⟩
  have F2 := fun_mk (st := s_round_winner) l2 c2 k2
  have D2 : Df K mg "round_winner" s_round_winner ["level", "pair"] _ _ := ⟨F2, PySem.W.mg_of X G a2, F2.binds (ps := ["level", "pair"]) fun _ _ _ _ _ _ us hl => match us, hl with | [_, _], _ => rfl⟩
  have F3 := fun_mk (st := s_start_of) l3 c3 k3
  have D3 : Df K mg "start_of" s_start_of ["form"] _ _ := ⟨F3, PySem.W.mg_of X G a3, F3.binds (ps := ["form"]) fun _ _ _ _ _ _ us hl => match us, hl with | [_], _ => rfl⟩
  have F4 := fun_mk (st := s_plus) l4 c4 k4
  have D4 : Df K mg "plus" s_plus ["pair", "side"] _ _ := ⟨F4, PySem.W.mg_of X G a4, F4.binds (ps := ["pair", "side"]) fun _ _ _ _ _ _ us hl => match us, hl with | [_, _], _ => rfl⟩
  have F5 := fun_mk (st := s_settled) l5 c5 k5
  have D5 : Df K mg "settled" s_settled ["form", "now"] _ _ := ⟨F5, PySem.W.mg_of X G a5, F5.binds (ps := ["form", "now"]) fun _ _ _ _ _ _ us hl => match us, hl with | [_, _], _ => rfl⟩
  have F6 := fun_mk (st := s_Board___len__) l6 c6 k6
  have D6 : Dm K C "__len__" "Board.__len__" s_Board___len__ ["self"] _ _ := ⟨F6, ⟨a6, i6, k6⟩, F6.binds (ps := ["self"]) fun _ _ _ _ _ _ us hl => match us, hl with | [_], _ => rfl⟩
  have F7 := fun_mk (st := s_row_to) l7 c7 k7
  have D7 : Df K mg "row_to" s_row_to ["sources", "key"] _ _ := ⟨F7, PySem.W.mg_of X G a7, F7.binds (ps := ["sources", "key"]) fun _ _ _ _ _ _ us hl => match us, hl with | [_, _], _ => rfl⟩
  have F8 := fun_mk (st := s__law_draw) l8 c8 k8
  have D8 : Df K mg "_law_draw" s__law_draw ["_law_script", "_law_town", "_law_many"] _ _ := ⟨F8, PySem.W.mg_of X G a8, F8.binds (ps := ["_law_script", "_law_town", "_law_many"]) fun _ _ _ _ _ _ us hl => match us, hl with | [_, _, _], _ => rfl⟩
  have F9 := fun_mk (st := s__law_won) l9 c9 k9
  have D9 : Df K mg "_law_won" s__law_won ["_law_level_here", "_law_one", "_law_two"] _ _ := ⟨F9, PySem.W.mg_of X G a9, F9.binds (ps := ["_law_level_here", "_law_one", "_law_two"]) fun _ _ _ _ _ _ us hl => match us, hl with | [_, _, _], _ => rfl⟩
  have F10 := fun_mk (st := s_is_level) l10 c10 k10
  have D10 : Df K mg "is_level" s_is_level ["value"] _ _ := ⟨F10, PySem.W.mg_of X G a10, F10.binds (ps := ["value"]) fun _ _ _ _ _ _ us hl => match us, hl with | [_], _ => rfl⟩
  have F11 := fun_mk (st := s_is_side) l11 c11 k11
  have D11 : Df K mg "is_side" s_is_side ["value"] _ _ := ⟨F11, PySem.W.mg_of X G a11, F11.binds (ps := ["value"]) fun _ _ _ _ _ _ us hl => match us, hl with | [_], _ => rfl⟩
  have F12 := fun_mk (st := s_after) l12 c12 k12
  have D12 : Df K mg "after" s_after ["form", "score", "side"] _ _ := ⟨F12, PySem.W.mg_of X G a12, F12.binds (ps := ["form", "score", "side"]) fun _ _ _ _ _ _ us hl => match us, hl with | [_, _, _], _ => rfl⟩
  have F13 := fun_mk (st := s_rounds) l13 c13 k13
  have D13 : Df K mg "rounds" s_rounds ["level"] _ _ := ⟨F13, PySem.W.mg_of X G a13, F13.binds (ps := ["level"]) fun _ _ _ _ _ _ us hl => match us, hl with | [_], _ => rfl⟩
  have F14 := fun_mk (st := s__law_pick) l14 c14 k14
  have D14 : Df K mg "_law_pick" s__law_pick ["_law_script", "_law_town", "_law_some"] _ _ := ⟨F14, PySem.W.mg_of X G a14, F14.binds (ps := ["_law_script", "_law_town", "_law_some"]) fun _ _ _ _ _ _ us hl => match us, hl with | [_, _, _], _ => rfl⟩
  have F15 := fun_mk (st := s__law_after) l15 c15 k15
  have D15 : Df K mg "_law_after" s__law_after ["_law_form_here", "_law_state", "_law_side"] _ _ := ⟨F15, PySem.W.mg_of X G a15, F15.binds (ps := ["_law_form_here", "_law_state", "_law_side"]) fun _ _ _ _ _ _ us hl => match us, hl with | [_, _, _], _ => rfl⟩
  have F16 := fun_mk (st := s__law_row) l16 c16 k16
  have D16 : Df K mg "_law_row" s__law_row ["_law_script", "_law_town", "_law_most"] _ _ := ⟨F16, PySem.W.mg_of X G a16, F16.binds (ps := ["_law_script", "_law_town", "_law_most"]) fun _ _ _ _ _ _ us hl => match us, hl with | [_, _, _], _ => rfl⟩
  have F17 := fun_mk (st := s_is_form) l17 c17 k17
  have D17 : Df K mg "is_form" s_is_form ["value"] _ _ := ⟨F17, PySem.W.mg_of X G a17, F17.binds (ps := ["value"]) fun _ _ _ _ _ _ us hl => match us, hl with | [_], _ => rfl⟩
  have F18 := fun_mk (st := s_need_side) l18 c18 k18
  have D18 : Df K mg "need_side" s_need_side ["value"] _ _ := ⟨F18, PySem.W.mg_of X G a18, F18.binds (ps := ["value"]) fun _ _ _ _ _ _ us hl => match us, hl with | [_], _ => rfl⟩
  have F19 := fun_mk (st := s_need_row) l19 c19 k19
  have D19 : Df K mg "need_row" s_need_row ["value"] _ _ := ⟨F19, PySem.W.mg_of X G a19, F19.binds (ps := ["value"]) fun _ _ _ _ _ _ us hl => match us, hl with | [_], _ => rfl⟩
  have F20 := fun_mk (st := s_played) l20 c20 k20
  have D20 : Df K mg "played" s_played ["form", "row"] _ _ := ⟨F20, PySem.W.mg_of X G a20, F20.binds (ps := ["form", "row"]) fun _ _ _ _ _ _ us hl => match us, hl with | [_, _], _ => rfl⟩
  have F21 := fun_mk (st := s_needs_at) l21 c21 k21
  have D21 : Df K mg "needs_at" s_needs_at ["form", "now", "won", "side"] _ _ := ⟨F21, PySem.W.mg_of X G a21, F21.binds (ps := ["form", "now", "won", "side"]) fun _ _ _ _ _ _ us hl => match us, hl with | [_, _, _, _], _ => rfl⟩
  have F22 := fun_mk (st := s_best_row) l22 c22 k22
  have D22 : Df K mg "best_row" s_best_row ["level", "wins", "units"] _ _ := ⟨F22, PySem.W.mg_of X G a22, F22.binds (ps := ["level", "wins", "units"]) fun _ _ _ _ _ _ us hl => match us, hl with | [_, _, _], _ => rfl⟩
  have F23 := fun_mk (st := s__law_level) l23 c23 k23
  have D23 : Df K mg "_law_level" s__law_level ["_law_script", "_law_town", "_law_most"] _ _ := ⟨F23, PySem.W.mg_of X G a23, F23.binds (ps := ["_law_script", "_law_town", "_law_most"]) fun _ _ _ _ _ _ us hl => match us, hl with | [_, _, _], _ => rfl⟩
  have F24 := fun_mk (st := s__law_play) l24 c24 k24
  have D24 : Df K mg "_law_play" s__law_play ["_law_form_here", "_law_row_here"] _ _ := ⟨F24, PySem.W.mg_of X G a24, F24.binds (ps := ["_law_form_here", "_law_row_here"]) fun _ _ _ _ _ _ us hl => match us, hl with | [_, _], _ => rfl⟩
  have F25 := fun_mk (st := s_need_form) l25 c25 k25
  have D25 : Df K mg "need_form" s_need_form ["value"] _ _ := ⟨F25, PySem.W.mg_of X G a25, F25.binds (ps := ["value"]) fun _ _ _ _ _ _ us hl => match us, hl with | [_], _ => rfl⟩
  have F26 := fun_mk (st := s_Board_score) l26 c26 k26
  have D26 : Dm K C "score" "Board.score" s_Board_score ["self"] _ _ := ⟨F26, ⟨a26, i26, k26⟩, F26.binds (ps := ["self"]) fun _ _ _ _ _ _ us hl => match us, hl with | [_], _ => rfl⟩
  have F27 := fun_mk (st := s_Board_winner) l27 c27 k27
  have D27 : Dm K C "winner" "Board.winner" s_Board_winner ["self"] _ _ := ⟨F27, ⟨a27, i27, k27⟩, F27.binds (ps := ["self"]) fun _ _ _ _ _ _ us hl => match us, hl with | [_], _ => rfl⟩
  have F28 := fun_mk (st := s_surpluses) l28 c28 k28
  have D28 : Df K mg "surpluses" s_surpluses ["form"] _ _ := ⟨F28, PySem.W.mg_of X G a28, F28.binds (ps := ["form"]) fun _ _ _ _ _ _ us hl => match us, hl with | [_], _ => rfl⟩
  have F29 := fun_mk (st := s_points_of) l29 c29 k29
  have D29 : Df K mg "points_of" s_points_of ["found", "at", "side"] _ _ := ⟨F29, PySem.W.mg_of X G a29, F29.binds (ps := ["found", "at", "side"]) fun _ _ _ _ _ _ us hl => match us, hl with | [_, _, _], _ => rfl⟩
  have F30 := fun_mk (st := s__law_form) l30 c30 k30
  have D30 : Df K mg "_law_form" s__law_form ["_law_script", "_law_town"] _ _ := ⟨F30, PySem.W.mg_of X G a30, F30.binds (ps := ["_law_script", "_law_town"]) fun _ _ _ _ _ _ us hl => match us, hl with | [_, _], _ => rfl⟩
  have F31 := fun_mk (st := s_need_match) l31 c31 k31
  have D31 : Df K mg "need_match" s_need_match ["form", "row"] _ _ := ⟨F31, PySem.W.mg_of X G a31, F31.binds (ps := ["form", "row"]) fun _ _ _ _ _ _ us hl => match us, hl with | [_, _], _ => rfl⟩
  have F32 := fun_mk (st := s_Board___init__) l32 c32 k32
  have D32 : Dk K C "Board.__init__" s_Board___init__ ["self", "form"] _ _ := ⟨F32, ⟨mkC, a32, i32, kcC⟩, F32.binds (ps := ["self", "form"]) fun _ _ _ _ _ _ us hl => match us, hl with | [_, _], _ => rfl⟩
  have F33 := fun_mk (st := s_Board_point) l33 c33 k33
  have D33 : Dm K C "point" "Board.point" s_Board_point ["self", "side"] _ _ := ⟨F33, ⟨a33, i33, k33⟩, F33.binds (ps := ["self", "side"]) fun _ _ _ _ _ _ us hl => match us, hl with | [_, _], _ => rfl⟩
  have F34 := fun_mk (st := s_Board_undo) l34 c34 k34
  have D34 : Dm K C "undo" "Board.undo" s_Board_undo ["self"] _ _ := ⟨F34, ⟨a34, i34, k34⟩, F34.binds (ps := ["self"]) fun _ _ _ _ _ _ us hl => match us, hl with | [_], _ => rfl⟩
  have F35 := fun_mk (st := s_surplus_row) l35 c35 k35
  have D35 : Df K mg "surplus_row" s_surplus_row ["form"] _ _ := ⟨F35, PySem.W.mg_of X G a35, F35.binds (ps := ["form"]) fun _ _ _ _ _ _ us hl => match us, hl with | [_], _ => rfl⟩
  have F36 := fun_mk (st := s_parting) l36 c36 k36
  have D36 : Df K mg "parting" s_parting ["form", "other"] _ _ := ⟨F36, PySem.W.mg_of X G a36, F36.binds (ps := ["form", "other"]) fun _ _ _ _ _ _ us hl => match us, hl with | [_, _], _ => rfl⟩
  have F37 := fun_mk (st := s_winner) l37 c37 k37
  have D37 : Df K mg "winner" s_winner ["form", "row"] _ _ := ⟨F37, PySem.W.mg_of X G a37, F37.binds (ps := ["form", "row"]) fun _ _ _ _ _ _ us hl => match us, hl with | [_, _], _ => rfl⟩
  have F38 := fun_mk (st := s_score) l38 c38 k38
  have D38 : Df K mg "score" s_score ["form", "row"] _ _ := ⟨F38, PySem.W.mg_of X G a38, F38.binds (ps := ["form", "row"]) fun _ _ _ _ _ _ us hl => match us, hl with | [_, _], _ => rfl⟩
  have F39 := fun_mk (st := s_match_points) l39 c39 k39
  have D39 : Df K mg "match_points" s_match_points ["form", "row"] _ _ := ⟨F39, PySem.W.mg_of X G a39, F39.binds (ps := ["form", "row"]) fun _ _ _ _ _ _ us hl => match us, hl with | [_, _], _ => rfl⟩
  have F40 := fun_mk (st := s_Board_copy) l40 c40 k40
  have D40 : Dm K C "copy" "Board.copy" s_Board_copy ["self"] _ _ := ⟨F40, ⟨a40, i40, k40⟩, F40.binds (ps := ["self"]) fun _ _ _ _ _ _ us hl => match us, hl with | [_], _ => rfl⟩
  have F41 := fun_mk (st := s__law_answers) l41 c41 k41
  have D41 : Df K mg "_law_answers" s__law_answers ["_law_form_here", "_law_row_here"] _ _ := ⟨F41, PySem.W.mg_of X G a41, F41.binds (ps := ["_law_form_here", "_law_row_here"]) fun _ _ _ _ _ _ us hl => match us, hl with | [_, _], _ => rfl⟩
  have F42 := fun_mk (st := s_law) l42 c42 k42
  have D42 : Df K mg "law" s_law ["_law_script"] _ _ := ⟨F42, PySem.W.mg_of X G a42, F42.binds (ps := ["_law_script"]) fun _ _ _ _ _ _ us hl => match us, hl with | [_], _ => rfl⟩
  refine ⟨PySem.W.fnOf "law" "law" (defArgs s_law) (defBody s_law) (defScope s_law) .none kV42 dc42 pm42 an42 cd42 ct42, fun s v => .of_eq rfl, fun base _ _ => ?_⟩
  have G1 : FnOk l.prog w K mg base (L2.CX l.prog w) _ _ _ _ (spOf ⟨l.prog, w, K⟩ (xm) _ f_is_count) := ok_is_count F1 T
  have G2 : FnOk l.prog w K mg base (L2.CX l.prog w) _ _ _ _ (spOf ⟨l.prog, w, K⟩ (xm) _ f_round_winner) := ok_round_winner F2 T
  have G3 : FnOk l.prog w K mg base (L2.CX l.prog w) _ _ _ _ (spOf ⟨l.prog, w, K⟩ (xm) _ f_start_of) := ok_start_of F3 T
  have G4 : FnOk l.prog w K mg base (L2.CX l.prog w) _ _ _ _ (spOf ⟨l.prog, w, K⟩ (xm) _ f_plus) := ok_plus F4 T
  have G5 : FnOk l.prog w K mg base (L2.CX l.prog w) _ _ _ _ (spOf ⟨l.prog, w, K⟩ (xm) _ f_settled) := ok_settled F5 T
  have G6 : FnOk l.prog w K mg base (L2.CX l.prog w) _ _ _ _ (spOf ⟨l.prog, w, K⟩ (xm) _ f_Board___len__) := ok_Board___len__ F6 T Bc
  have G7 : FnOk l.prog w K mg base (L2.CX l.prog w) _ _ _ _ (spOf ⟨l.prog, w, K⟩ (xm) _ f_row_to) := ok_row_to F7 T
  have G8 : FnOk l.prog w K mg base (L2.CX l.prog w) _ _ _ _ (spOf ⟨l.prog, w, K⟩ (xm) _ f__law_draw) := ok__law_draw F8 T
  have G9 : FnOk l.prog w K mg base (L2.CX l.prog w) _ _ _ _ (spOf ⟨l.prog, w, K⟩ (xm) _ f__law_won) := ok__law_won F9 T
  have G10 : FnOk l.prog w K mg base (L2.CX l.prog w) _ _ _ _ (spOf ⟨l.prog, w, K⟩ (xm) _ f_is_level) := ok_is_level F10 T D1 G1
  have G11 : FnOk l.prog w K mg base (L2.CX l.prog w) _ _ _ _ (spOf ⟨l.prog, w, K⟩ (xm) _ f_is_side) := ok_is_side F11 T D1 G1
  have G12 : FnOk l.prog w K mg base (L2.CX l.prog w) _ _ _ _ (spOf ⟨l.prog, w, K⟩ (xm) _ f_after) := ok_after F12 T D2 G2 D4 G4
  have G13 : FnOk l.prog w K mg base (L2.CX l.prog w) _ _ _ _ (spOf ⟨l.prog, w, K⟩ (xm) _ f_rounds) := ok_rounds F13 T D2 G2 D4 G4
  have G14 : FnOk l.prog w K mg base (L2.CX l.prog w) _ _ _ _ (spOf ⟨l.prog, w, K⟩ (xm) _ f__law_pick) := ok__law_pick F14 T D8 G8
  have G15 : FnOk l.prog w K mg base (L2.CX l.prog w) _ _ _ _ (spOf ⟨l.prog, w, K⟩ (xm) _ f__law_after) := ok__law_after F15 T D9 G9
  have G16 : FnOk l.prog w K mg base (L2.CX l.prog w) _ _ _ _ (spOf ⟨l.prog, w, K⟩ (xm) _ f__law_row) := ok__law_row F16 T D8 G8
  have G17 : FnOk l.prog w K mg base (L2.CX l.prog w) _ _ _ _ (spOf ⟨l.prog, w, K⟩ (xm) _ f_is_form) := ok_is_form F17 T D10 G10
  have G18 : FnOk l.prog w K mg base (L2.CX l.prog w) _ _ _ _ (spOf ⟨l.prog, w, K⟩ (xm) _ f_need_side) := ok_need_side F18 T D11 G11
  have G19 : FnOk l.prog w K mg base (L2.CX l.prog w) _ _ _ _ (spOf ⟨l.prog, w, K⟩ (xm) _ f_need_row) := ok_need_row F19 T D11 G11
  have G20 : FnOk l.prog w K mg base (L2.CX l.prog w) _ _ _ _ (spOf ⟨l.prog, w, K⟩ (xm) _ f_played) := ok_played F20 T D3 G3 D12 G12
  have G21 : FnOk l.prog w K mg base (L2.CX l.prog w) _ _ _ _ (spOf ⟨l.prog, w, K⟩ (xm) _ f_needs_at) := ok_needs_at F21 T D12 G12
  have G22 : FnOk l.prog w K mg base (L2.CX l.prog w) _ _ _ _ (spOf ⟨l.prog, w, K⟩ (xm) _ f_best_row) := ok_best_row F22 T D2 G2 D13 G13
  have G23 : FnOk l.prog w K mg base (L2.CX l.prog w) _ _ _ _ (spOf ⟨l.prog, w, K⟩ (xm) _ f__law_level) := ok__law_level F23 T D8 G8 D14 G14
  have G24 : FnOk l.prog w K mg base (L2.CX l.prog w) _ _ _ _ (spOf ⟨l.prog, w, K⟩ (xm) _ f__law_play) := ok__law_play F24 T D15 G15
  have G25 : FnOk l.prog w K mg base (L2.CX l.prog w) _ _ _ _ (spOf ⟨l.prog, w, K⟩ (xm) _ f_need_form) := ok_need_form F25 T D17 G17
  have G26 : FnOk l.prog w K mg base (L2.CX l.prog w) _ _ _ _ (spOf ⟨l.prog, w, K⟩ (xm) _ f_Board_score) := ok_Board_score F26 T Bc D20 G20
  have G27 : FnOk l.prog w K mg base (L2.CX l.prog w) _ _ _ _ (spOf ⟨l.prog, w, K⟩ (xm) _ f_Board_winner) := ok_Board_winner F27 T Bc D20 G20
  have G28 : FnOk l.prog w K mg base (L2.CX l.prog w) _ _ _ _ (spOf ⟨l.prog, w, K⟩ (xm) _ f_surpluses) := ok_surpluses F28 T D22 G22
  have G29 : FnOk l.prog w K mg base (L2.CX l.prog w) _ _ _ _ (spOf ⟨l.prog, w, K⟩ (xm) _ (f_points_of 4)) := ok_points_of F29 D29 T 4
  have GN29 : FnOk l.prog w K mg base (L2.CX l.prog w) _ _ _ _ (spOf ⟨l.prog, w, K⟩ (xm) _ f_points_ofN) := okN_points_of F29 D29 T
  have G30 : FnOk l.prog w K mg base (L2.CX l.prog w) _ _ _ _ (spOf ⟨l.prog, w, K⟩ (xm) _ f__law_form) := ok__law_form F30 T D14 G14 D23 G23
  have G31 : FnOk l.prog w K mg base (L2.CX l.prog w) _ _ _ _ (spOf ⟨l.prog, w, K⟩ (xm) _ f_need_match) := ok_need_match F31 T D25 G25 D19 G19
  have G32 : FnOk l.prog w K mg base (L2.CX l.prog w) _ _ _ _ (spOf ⟨l.prog, w, K⟩ (xm) _ f_Board___init__) := ok_Board___init__ F32 T Bc D25 G25
  have G33 : FnOk l.prog w K mg base (L2.CX l.prog w) _ _ _ _ (spOf ⟨l.prog, w, K⟩ (xm) _ f_Board_point) := ok_Board_point F33 T Bc D18 G18 D27 G27
  have G34 : FnOk l.prog w K mg base (L2.CX l.prog w) _ _ _ _ (spOf ⟨l.prog, w, K⟩ (xm) _ f_Board_undo) := ok_Board_undo F34 T Bc D26 G26
  have G35 : FnOk l.prog w K mg base (L2.CX l.prog w) _ _ _ _ (spOf ⟨l.prog, w, K⟩ (xm) _ f_surplus_row) := ok_surplus_row F35 T D25 G25 D28 G28 D29 G29 GN29
  have G36 : FnOk l.prog w K mg base (L2.CX l.prog w) _ _ _ _ (spOf ⟨l.prog, w, K⟩ (xm) _ f_parting) := ok_parting F36 T D25 G25 D3 G3 D12 G12 D5 G5 D7 G7
  have G37 : FnOk l.prog w K mg base (L2.CX l.prog w) _ _ _ _ (spOf ⟨l.prog, w, K⟩ (xm) _ f_winner) := ok_winner F37 T D20 G20 D31 G31
  have G38 : FnOk l.prog w K mg base (L2.CX l.prog w) _ _ _ _ (spOf ⟨l.prog, w, K⟩ (xm) _ f_score) := ok_score F38 T D20 G20 D31 G31
  have G39 : FnOk l.prog w K mg base (L2.CX l.prog w) _ _ _ _ (spOf ⟨l.prog, w, K⟩ (xm) _ f_match_points) := ok_match_points F39 T D20 G20 D31 G31 D21 G21
  have G40 : FnOk l.prog w K mg base (L2.CX l.prog w) _ _ _ _ (spOf ⟨l.prog, w, K⟩ (xm) _ f_Board_copy) := ok_Board_copy F40 T Bc D32 G32
  have G41 : FnOk l.prog w K mg base (L2.CX l.prog w) _ _ _ _ (spOf ⟨l.prog, w, K⟩ (xm) _ f__law_answers) := ok__law_answers F41 T D38 G38 D39 G39 D35 G35 D36 G36
  have GK41 : FnOk l.prog w K mg base (L2.CX l.prog w) _ _ _ _ (spOf ⟨l.prog, w, K⟩ (xm) _ f__law_answersK) := okK__law_answers F41 T D38 G38 D39 G39 D35 G35 D36 G36
  have G42 : FnOk l.prog w K mg base (L2.CX l.prog w) _ _ _ _ (spOf ⟨l.prog, w, K⟩ (xm) _ f_law) := ok_law F42 T Bc D37 G37 D30 G30 D24 G24 D16 G16 D41 G41 GK41 D32 G32 D33 G33 D34 G34 D26 G26 D27 G27 D40 G40 D6 G6
  exact G42
end
end Sf
end

section
set_option Elab.async false
set_option maxRecDepth 100000
open PySem PySem.W PyProof.Rows
set_option maxRecDepth 100000 in
set_option maxHeartbeats 0 in
theorem PySem.Challenge.cw_scoreforms_k20_whole_copies_holds : PySem.Challenge.rw_scoreforms_k20_whole_copies.Holds := by
  w_on; o_law; k_head; (case hw => w_witness2)
  k_fill
  refine Sf.law_end (l := PySem.Challenge.rw_scoreforms_k20_whole_copies) (F := Sf.f_law) (xm := fun _ _ => .none) (k := 8) (x := "_law_script") rfl rfl ⟨rfl, by decide, by decide⟩ (fun w h Y => PySem.W.kIn_of Y) ?F Sf.law_true
  case F =>
    intro w mg fa h KX G hmg
    refine' Sf.all_mk KX G hmg ?aC ?pgC ?hdC ?poC ?saC ?mkC ?kcC ?nFC ?nPC ?a1 ?l1 ?c1 ?k1 ?a2 ?l2 ?c2 ?k2 ?a3 ?l3 ?c3 ?k3 ?a4 ?l4 ?c4 ?k4 ?a5 ?l5 ?c5 ?k5 ?a6 ?i6 ?l6 ?c6 ?k6 ?a7 ?l7 ?c7 ?k7 ?a8 ?l8 ?c8 ?k8 ?a9 ?l9 ?c9 ?k9 ?a10 ?l10 ?c10 ?k10 ?a11 ?l11 ?c11 ?k11 ?a12 ?l12 ?c12 ?k12 ?a13 ?l13 ?c13 ?k13 ?a14 ?l14 ?c14 ?k14 ?a15 ?l15 ?c15 ?k15 ?a16 ?l16 ?c16 ?k16 ?a17 ?l17 ?c17 ?k17 ?a18 ?l18 ?c18 ?k18 ?a19 ?l19 ?c19 ?k19 ?a20 ?l20 ?c20 ?k20 ?a21 ?l21 ?c21 ?k21 ?a22 ?l22 ?c22 ?k22 ?a23 ?l23 ?c23 ?k23 ?a24 ?l24 ?c24 ?k24 ?a25 ?l25 ?c25 ?k25 ?a26 ?i26 ?l26 ?c26 ?k26 ?a27 ?i27 ?l27 ?c27 ?k27 ?a28 ?l28 ?c28 ?k28 ?a29 ?l29 ?c29 ?k29 ?a30 ?l30 ?c30 ?k30 ?a31 ?l31 ?c31 ?k31 ?a32 ?i32 ?l32 ?c32 ?k32 ?a33 ?i33 ?l33 ?c33 ?k33 ?a34 ?i34 ?l34 ?c34 ?k34 ?a35 ?l35 ?c35 ?k35 ?a36 ?l36 ?c36 ?k36 ?a37 ?l37 ?c37 ?k37 ?a38 ?l38 ?c38 ?k38 ?a39 ?l39 ?c39 ?k39 ?a40 ?i40 ?l40 ?c40 ?k40 ?a41 ?l41 ?c41 ?k41 ?a42 ?l42 ?c42 ?k42 ?z_all ?z_bool ?z_enumerate ?z_int ?z_isinstance ?z_len ?z_list ?z_max ?z_min ?z_range ?z_sum ?z_tuple ?z_zip ?z_TARGET ?z_LEAD ?z_CAP ?z_LEVELS ?z_POINTS
    (case aC => k_is)
    (case pgC => k_is)
    (case hdC => k_is)
    (case poC => k_is)
    (case saC => k_is)
    (case mkC => k_is)
    (case kcC => k_is)
    (case nFC => k_is)
    (case nPC => k_is)
    (case a1 => k_is)
    (case l1 => k_is)
    (case c1 => k_is)
    (case k1 => k_is)
    (case a2 => k_is)
    (case l2 => k_is)
    (case c2 => k_is)
    (case k2 => k_is)
    (case a3 => k_is)
    (case l3 => k_is)
    (case c3 => k_is)
    (case k3 => k_is)
    (case a4 => k_is)
    (case l4 => k_is)
    (case c4 => k_is)
    (case k4 => k_is)
    (case a5 => k_is)
    (case l5 => k_is)
    (case c5 => k_is)
    (case k5 => k_is)
    (case a6 => k_is)
    (case i6 => k_is)
    (case l6 => k_is)
    (case c6 => k_is)
    (case k6 => k_is)
    (case a7 => k_is)
    (case l7 => k_is)
    (case c7 => k_is)
    (case k7 => k_is)
    (case a8 => k_is)
    (case l8 => k_is)
    (case c8 => k_is)
    (case k8 => k_is)
    (case a9 => k_is)
    (case l9 => k_is)
    (case c9 => k_is)
    (case k9 => k_is)
    (case a10 => k_is)
    (case l10 => k_is)
    (case c10 => k_is)
    (case k10 => k_is)
    (case a11 => k_is)
    (case l11 => k_is)
    (case c11 => k_is)
    (case k11 => k_is)
    (case a12 => k_is)
    (case l12 => k_is)
    (case c12 => k_is)
    (case k12 => k_is)
    (case a13 => k_is)
    (case l13 => k_is)
    (case c13 => k_is)
    (case k13 => k_is)
    (case a14 => k_is)
    (case l14 => k_is)
    (case c14 => k_is)
    (case k14 => k_is)
    (case a15 => k_is)
    (case l15 => k_is)
    (case c15 => k_is)
    (case k15 => k_is)
    (case a16 => k_is)
    (case l16 => k_is)
    (case c16 => k_is)
    (case k16 => k_is)
    (case a17 => k_is)
    (case l17 => k_is)
    (case c17 => k_is)
    (case k17 => k_is)
    (case a18 => k_is)
    (case l18 => k_is)
    (case c18 => k_is)
    (case k18 => k_is)
    (case a19 => k_is)
    (case l19 => k_is)
    (case c19 => k_is)
    (case k19 => k_is)
    (case a20 => k_is)
    (case l20 => k_is)
    (case c20 => k_is)
    (case k20 => k_is)
    (case a21 => k_is)
    (case l21 => k_is)
    (case c21 => k_is)
    (case k21 => k_is)
    (case a22 => k_is)
    (case l22 => k_is)
    (case c22 => k_is)
    (case k22 => k_is)
    (case a23 => k_is)
    (case l23 => k_is)
    (case c23 => k_is)
    (case k23 => k_is)
    (case a24 => k_is)
    (case l24 => k_is)
    (case c24 => k_is)
    (case k24 => k_is)
    (case a25 => k_is)
    (case l25 => k_is)
    (case c25 => k_is)
    (case k25 => k_is)
    (case a26 => k_is)
    (case i26 => k_is)
    (case l26 => k_is)
    (case c26 => k_is)
    (case k26 => k_is)
    (case a27 => k_is)
    (case i27 => k_is)
    (case l27 => k_is)
    (case c27 => k_is)
    (case k27 => k_is)
    (case a28 => k_is)
    (case l28 => k_is)
    (case c28 => k_is)
    (case k28 => k_is)
    (case a29 => k_is)
    (case l29 => k_is)
    (case c29 => k_is)
    (case k29 => k_is)
    (case a30 => k_is)
    (case l30 => k_is)
    (case c30 => k_is)
    (case k30 => k_is)
    (case a31 => k_is)
    (case l31 => k_is)
    (case c31 => k_is)
    (case k31 => k_is)
    (case a32 => k_is)
    (case i32 => k_is)
    (case l32 => k_is)
    (case c32 => k_is)
    (case k32 => k_is)
    (case a33 => k_is)
    (case i33 => k_is)
    (case l33 => k_is)
    (case c33 => k_is)
    (case k33 => k_is)
    (case a34 => k_is)
    (case i34 => k_is)
    (case l34 => k_is)
    (case c34 => k_is)
    (case k34 => k_is)
    (case a35 => k_is)
    (case l35 => k_is)
    (case c35 => k_is)
    (case k35 => k_is)
    (case a36 => k_is)
    (case l36 => k_is)
    (case c36 => k_is)
    (case k36 => k_is)
    (case a37 => k_is)
    (case l37 => k_is)
    (case c37 => k_is)
    (case k37 => k_is)
    (case a38 => k_is)
    (case l38 => k_is)
    (case c38 => k_is)
    (case k38 => k_is)
    (case a39 => k_is)
    (case l39 => k_is)
    (case c39 => k_is)
    (case k39 => k_is)
    (case a40 => k_is)
    (case i40 => k_is)
    (case l40 => k_is)
    (case c40 => k_is)
    (case k40 => k_is)
    (case a41 => k_is)
    (case l41 => k_is)
    (case c41 => k_is)
    (case k41 => k_is)
    (case a42 => k_is)
    (case l42 => k_is)
    (case c42 => k_is)
    (case k42 => k_is)
    (case z_all => k_is)
    (case z_bool => k_is)
    (case z_enumerate => k_is)
    (case z_int => k_is)
    (case z_isinstance => k_is)
    (case z_len => k_is)
    (case z_list => k_is)
    (case z_max => k_is)
    (case z_min => k_is)
    (case z_range => k_is)
    (case z_sum => k_is)
    (case z_tuple => k_is)
    (case z_zip => k_is)
    (case z_TARGET => k_is)
    (case z_LEAD => k_is)
    (case z_CAP => k_is)
    (case z_LEVELS => k_is)
    (case z_POINTS => k_is)
end
