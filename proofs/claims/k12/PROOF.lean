import PyProof.Rows.All
import Wide.All
import OpenK.AllK
import Wide.FinOn
import HandS.ForMost
import HandS.ForExc
import HandS.Style
import HandS.Wide
import HandS.TupAny
import HandS.TupMul
import HandS.Zip
import KE.KDictKeyed
import KE.KDictDisplayH
import HandS.IsInst
import HandS.SetFor
import KE.DataMinMax
import KE.KTupSum
import KE.GoesMore
import HandS.SortInts
import HandS.DictEq
import PyProof.Rows.RowBridgeK
import KE.KRevSl
import PyProof.P3Eq
import HandS.ExcIs
import HandS.HotCalls
import HandS.Conv
import HandS.Text
import PySem.Challenge.RW_scoreforms_k12_whole_formats
section
set_option Elab.async false
set_option maxRecDepth 100000
set_option linter.all false
/-! Sf1: data trees D, the store, what they stand for in the abstract heap; outcomes; expressions as functions. -/
namespace Sf
open PySem PySem.Spec PyProof.Rows L2

/-- values as trees; a mutable object by its place in the store -/
inductive D where
  | und | non | bl (b : Bool) | int (i : Int) | str (x : Str) | tup (l : List D) | lst (l : List D) | scr (l : List D) | loc (n : Nat) | glob (v : V)

/-- what stands at a place of the store -/
inductive Ob where
  | lst (l : List D)
  | dct (lk : Bool) (kvs : List (D × D))
  | dki (lk : Bool) (kvs : List (Int × D))
  | ins (fs : List (Str × D))
abbrev Sto := List Ob
abbrev En := List D

inductive Out (α : Type) where
  | ok (a : α) (S : Sto)
  | exc (c : Nat) (S : Sto)
  | bad

def fit (n : Nat) : Bool := Nat.ble n 16777216
theorem fit_le {n : Nat} (h : fit n = true) : n ≤ sizeLine := by rw [sizeLine_eq]; exact Nat.le_of_ble_eq_true h
def fitS (n : Nat) : Bool := Nat.blt n 16777216
theorem fitS_lt {n : Nat} (h : fitS n = true) : n < sizeLine := by
  rw [sizeLine_eq]
  have := Nat.le_of_ble_eq_true (show Nat.ble (n + 1) 16777216 = true from h)
  omega

section
variable (K : PySem.W.Frag)
/-- an object of the written part -/
def WtL (a : Addr) (xs : List V) : Prop := ∃ (o : Obj) (its : Array Value) (n : Nat), K.lookup a = some o ∧ o.cls = .type "list" ∧ o.dict = none ∧ o.data = .seq its n ∧ its.size ≤ sizeLine ∧ Vals xs its.toList
variable (B : List Addr)
def TupAt (ρ : List Addr) (H : Hp) (a : Addr) (vs : List V) : Prop := a ∉ B ∧ a ∉ ρ ∧ H a = some (.tup vs)
def ScrAt (ρ : List Addr) (H : Hp) (a : Addr) (vs : List V) : Prop := (a ∉ B ∧ a ∉ ρ ∧ Rd H a (.lst vs)) ∨ WtL K a vs
mutual
/-- the value v stands for the tree d. B, ρ: the addresses of what may change -/
inductive RV (ρ : List Addr) (H : Hp) : D → V → Prop
  | non : RV ρ H .non .non
  | bl (b : Bool) : RV ρ H (.bl b) (.bl b)
  | int (i : Int) : RV ρ H (.int i) (.int i)
  | str (x : Str) : RV ρ H (.str x) (.str x)
  | tup {a vs ds} : TupAt B ρ H a vs → RVs ρ H ds vs → RV ρ H (.tup ds) (.ref a)
  | lst {a vs ds} : a ∉ B → a ∉ ρ → H a = some (.lst vs) → RVs ρ H ds vs → RV ρ H (.lst ds) (.ref a)
  | scr {a vs ds} : ScrAt K B ρ H a vs → RVs ρ H ds vs → RV ρ H (.scr ds) (.ref a)
  | loc {n a} : ρ[n]? = some a → RV ρ H (.loc n) (.ref a)
  | glob {v : V} : v ≠ .non → RV ρ H (.glob v) v
inductive RVs (ρ : List Addr) (H : Hp) : List D → List V → Prop
  | nil : RVs ρ H [] []
  | cons {d v ds vs} : RV ρ H d v → RVs ρ H ds vs → RVs ρ H (d :: ds) (v :: vs)
end
end

section
variable {K : PySem.W.Frag} {B ρ : List Addr} {H : Hp} {ds es : List D} {vs ws : List V}
theorem RVs.length : ∀ {ds : List D} {vs : List V}, RVs K B ρ H ds vs → ds.length = vs.length
  | _, _, .nil => rfl
  | _, _, .cons _ r => by rw [List.length_cons, List.length_cons, RVs.length r]
theorem RVs.get : ∀ {ds : List D} {vs : List V} {i : Nat} {d : D}, RVs K B ρ H ds vs → ds[i]? = some d → ∃ v, vs[i]? = some v ∧ RV K B ρ H d v
  | _, _, _, _, .nil, e => by simp at e
  | _, _, 0, _, .cons r _, e => by simp at e; subst e; exact ⟨_, rfl, r⟩
  | _, _, i + 1, d, .cons _ t, e => by
    obtain ⟨v, h1, h2⟩ := RVs.get (i := i) (d := d) t (by simpa using e)
    exact ⟨v, by simpa using h1, h2⟩
theorem RVs.get' : ∀ {ds : List D} {vs : List V} {i : Nat} {v : V}, RVs K B ρ H ds vs → vs[i]? = some v → ∃ d, ds[i]? = some d ∧ RV K B ρ H d v
  | _, _, _, _, .nil, e => by simp at e
  | _, _, 0, _, .cons r _, e => by simp at e; subst e; exact ⟨_, rfl, r⟩
  | _, _, i + 1, d, .cons _ t, e => by
    obtain ⟨v, h1, h2⟩ := RVs.get' (i := i) t (by simpa using e)
    exact ⟨v, by simpa using h1, h2⟩
theorem RVs.append : ∀ {ds es : List D} {vs ws : List V}, RVs K B ρ H ds vs → RVs K B ρ H es ws → RVs K B ρ H (ds ++ es) (vs ++ ws)
  | _, _, _, _, .nil, s => s
  | _, _, _, _, .cons r t, s => .cons r (RVs.append t s)
theorem RVs.set {d : D} {v : V} (r : RV K B ρ H d v) : ∀ {ds : List D} {vs : List V} (i : Nat), RVs K B ρ H ds vs → RVs K B ρ H (ds.set i d) (vs.set i v)
  | _, _, _, .nil => .nil
  | _, _, 0, .cons _ t => .cons r t
  | _, _, i + 1, .cons q t => .cons q (RVs.set r i t)
theorem RVs.take : ∀ {ds : List D} {vs : List V} (n : Nat), RVs K B ρ H ds vs → RVs K B ρ H (ds.take n) (vs.take n)
  | _, _, 0, _ => .nil
  | _, _, _ + 1, .nil => .nil
  | _, _, n + 1, .cons r t => .cons r (RVs.take n t)
theorem RVs.drop : ∀ {ds : List D} {vs : List V} (n : Nat), RVs K B ρ H ds vs → RVs K B ρ H (ds.drop n) (vs.drop n)
  | _, _, 0, r => r
  | _, _, _ + 1, .nil => .nil
  | _, _, n + 1, .cons _ t => RVs.drop n t
theorem RVs.reverse (h : RVs K B ρ H ds vs) : RVs K B ρ H ds.reverse vs.reverse := by
  induction ds generalizing vs with
  | nil => cases h; exact .nil
  | cons d ds ih => cases h with | cons r t => rw [List.reverse_cons, List.reverse_cons]; exact (ih t).append (.cons r .nil)
theorem RVs.dropLast (h : RVs K B ρ H ds vs) : RVs K B ρ H ds.dropLast vs.dropLast := by
  rw [List.dropLast_eq_take, List.dropLast_eq_take, ← h.length]; exact h.take _
theorem RVs.rep (h : RVs K B ρ H ds vs) : ∀ k : Nat, RVs K B ρ H (List.replicate k ds).flatten (List.replicate k vs).flatten
  | 0 => .nil
  | k + 1 => by rw [List.replicate_succ, List.replicate_succ, List.flatten_cons, List.flatten_cons]; exact h.append (h.rep k)
theorem TupAt.sq {a : Addr} (h : TupAt B ρ H a vs) : SqT K H a vs := .inl (.inl h.2.2)
theorem ScrAt.sq {a : Addr} (h : ScrAt K B ρ H a vs) : SqL K H a vs := h.elim (fun h => .inl h.2.2) .inr

/-- what changes: nothing that stands, but at ρ; new addresses are told -/
structure Post (L ρ : List Addr) (H : Hp) (ρ' : List Addr) (H' : Hp) : Prop where
  ext : ∀ a u, (a ∉ ρ ∨ a ∈ L) → H a = some u → H' a = some u
  pre : ∃ t, ρ' = ρ ++ t
  new : ∀ a, a ∈ ρ' → a ∈ ρ ∨ H a = none
theorem Post.refl {L : List Addr} : Post L ρ H ρ H := ⟨fun _ _ _ h => h, ⟨[], by simp⟩, fun _ h => .inl h⟩
theorem Post.trans {L ρ1 ρ2 : List Addr} {H1 H2 : Hp} (a : Post L ρ H ρ1 H1) (b : Post L ρ1 H1 ρ2 H2) : Post L ρ H ρ2 H2 where
  ext := fun p u hp h => b.ext p u (hp.imp (fun hp z => (a.new p z).elim hp fun z => by rw [h] at z; cases z) id) (a.ext p u hp h)
  pre := by
    obtain ⟨t, e⟩ := a.pre
    obtain ⟨s, e'⟩ := b.pre
    exact ⟨t ++ s, by rw [e', e, List.append_assoc]⟩
  new := fun p hp => (b.new p hp).elim (a.new p) fun z => by
    by_cases q : p ∈ ρ
    · exact .inl q
    · cases e : H p with
      | none => exact .inr rfl
      | some u => rw [a.ext p u (.inl q) e] at z; cases z
theorem Post.rd {L ρ' : List Addr} {H' : Hp} (p : Post L ρ H ρ' H') {a : Addr} {u : HO} (h : a ∉ ρ) (r : Rd H a u) : Rd H' a u :=
  r.elim (fun r => .inl (p.ext a _ (.inl h) r)) fun ⟨o, r⟩ => .inr ⟨o, p.ext a _ (.inl h) r⟩
theorem Post.out {L ρ' : List Addr} {H' : Hp} (p : Post L ρ H ρ' H') {a : Addr} {u : HO} (h : a ∉ ρ) (r : H a = some u) : a ∉ ρ' := fun z => (p.new a z).elim h fun z => by rw [r] at z; cases z
theorem Post.outR {L ρ' : List Addr} {H' : Hp} (p : Post L ρ H ρ' H') {a : Addr} {u : HO} (h : a ∉ ρ) (r : Rd H a u) : a ∉ ρ' := r.elim (p.out h) fun ⟨_, r⟩ => p.out h r
theorem Post.at {L ρ' : List Addr} {H' : Hp} (p : Post L ρ H ρ' H') {n : Nat} {a : Addr} (h : ρ[n]? = some a) : ρ'[n]? = some a := by
  obtain ⟨t, rfl⟩ := p.pre
  rw [List.getElem?_append_left (List.getElem?_eq_some_iff.mp h).1]; exact h
mutual
theorem RV.mono {L ρ' : List Addr} {H' : Hp} (p : Post L ρ H ρ' H') : ∀ (d : D) (v : V), RV K B ρ H d v → RV K B ρ' H' d v
  | .und, _, h => nomatch h
  | .non, _, .non => .non
  | .bl _, _, .bl _ => .bl _
  | .int _, _, .int _ => .int _
  | .str _, _, .str _ => .str _
  | .tup ds, _, .tup h r => .tup ⟨h.1, p.out h.2.1 h.2.2, p.ext _ _ (.inl h.2.1) h.2.2⟩ (RVs.mono p ds _ r)
  | .lst ds, _, .lst h1 h2 h r => .lst h1 (p.out h2 h) (p.ext _ _ (.inl h2) h) (RVs.mono p ds _ r)
  | .scr ds, _, .scr h r => .scr (h.imp (fun h => ⟨h.1, p.outR h.2.1 h.2.2, p.rd h.2.1 h.2.2⟩) id) (RVs.mono p ds _ r)
  | .loc _, _, .loc h => .loc (p.at h)
  | .glob _, _, .glob h => .glob h
theorem RVs.mono {L ρ' : List Addr} {H' : Hp} (p : Post L ρ H ρ' H') : ∀ (ds : List D) (vs : List V), RVs K B ρ H ds vs → RVs K B ρ' H' ds vs
  | [], _, .nil => .nil
  | d :: ds, _, .cons h r => .cons (RV.mono p d _ h) (RVs.mono p ds _ r)
end
end

/-- the environment: a slot that holds a tree holds its value -/
structure RE (K : PySem.W.Frag) (B ρ : List Addr) (H : Hp) (env : En) (σ : L2.St) : Prop where
  len : env.length = σ.length
  at' : ∀ (i : Nat) (d : D), env[i]? = some d → d = .und ∨ ∃ v, σ[i]? = some (some v) ∧ RV K B ρ H d v
theorem RE.mono {K : PySem.W.Frag} {B L ρ ρ' : List Addr} {H H' : Hp} {env : En} {σ : L2.St} (h : RE K B ρ H env σ) (p : Post L ρ H ρ' H') : RE K B ρ' H' env σ :=
  ⟨h.len, fun i d e => (h.at' i d e).imp id fun ⟨v, e1, r⟩ => ⟨v, e1, r.mono p⟩⟩
theorem RE.set {K : PySem.W.Frag} {B ρ : List Addr} {H : Hp} {env : En} {σ : L2.St} {d : D} {v : V} (h : RE K B ρ H env σ) (i : Nat) (r : RV K B ρ H d v) : RE K B ρ H (env.set i d) (σ.set i (some v)) :=
  ⟨by simp [h.len], fun j e q => by
    by_cases hj : i = j
    · subst hj
      rw [List.getElem?_set] at q
      split at q
      · split at q
        · cases q
          refine .inr ⟨v, ?_, r⟩
          rw [List.getElem?_set_self (by rw [← h.len]; assumption)]
        · cases q
      · exact absurd rfl ‹_›
    · rw [List.getElem?_set_ne hj] at q
      rw [List.getElem?_set_ne hj]
      exact h.at' j e q⟩
def undE : En → List Nat → En
  | e, [] => e
  | e, v :: vs => (undE e vs).set v .und
theorem undE_length (e : En) : ∀ vs : List Nat, (undE e vs).length = e.length
  | [] => rfl
  | v :: vs => by unfold undE; rw [List.length_set, undE_length e vs]
theorem RE.wipe {K : PySem.W.Frag} {B ρ : List Addr} {H : Hp} {env : En} {σ : L2.St} (h : RE K B ρ H env σ) : ∀ vs : List Nat, RE K B ρ H (undE env vs) (wipe σ vs)
  | [] => h
  | v :: vs => by
    have ih := h.wipe vs
    refine ⟨by unfold undE L2.wipe; simp [ih.len], fun j e q => ?_⟩
    unfold undE at q
    unfold L2.wipe
    by_cases hj : v = j
    · subst hj
      rw [List.getElem?_set] at q
      split at q
      · split at q
        · cases q; exact .inl rfl
        · cases q
      · exact absurd rfl ‹_›
    · rw [List.getElem?_set_ne hj] at q
      rw [List.getElem?_set_ne hj]
      exact ih.at' j e q

/-- a dict whose keys are tuples: its object alone. ents: the key, its tuple's address, the value -/
def DctRaw (P : Program) (w : World) (a : Addr) (ents : List (NestedKey × Addr × V)) (h : Heap) : Prop :=
  ents.length ≤ sizeLine ∧ (a == sysModules) = false ∧ (ents.map (·.1)).Nodup ∧ ∃ xs : List (NestedKey × Addr × Value), Paired (fun (p : NestedKey × Addr × V) (q : NestedKey × Addr × Value) => p.1 = q.1 ∧ p.2.1 = q.2.1 ∧ RelV p.2.2 q.2.2) ents xs ∧
    ∃ o es ep, h.get? a = some o ∧ o.ExactDict ∧ o.data = .dict es ep ∧ es.toList = xs.map (entryOfKey (nestedKind P w))
def dx (P : Program) (w : World) (a : Addr) (ents : List (NestedKey × Addr × V)) : HO := .ext (DctRaw P w a ents)
mutual
def D.key : D → Option NestedKey
  | .non => some .none
  | .int i => some (.num i)
  | .tup ks => (D.keys ks).map .tup
  | _ => none
def D.keys : List D → Option (List NestedKey)
  | [] => some []
  | d :: ds => match D.key d, D.keys ds with
    | some k, some ks => some (k :: ks)
    | _, _ => none
end
structure Pg where
  P : Program
  w : World
  K : PySem.W.Frag
section
variable (G : Sf.Pg) (B L ρ : List Addr) (H : Hp)
inductive RKs : List (D × D) → List (NestedKey × Addr × V) → Prop
  | nil : RKs [] []
  | cons {k d nk ka v kvs ents} : D.key k = some nk → RV G.K B ρ H k (.ref ka) → nk.depth ≤ 8 → RV G.K B ρ H d v → RKs kvs ents → RKs ((k, d) :: kvs) ((nk, ka, v) :: ents)
inductive RIs : List (Int × D) → List (Key × V) → Prop
  | nil : RIs [] []
  | cons {i d v kvs ents} : RV G.K B ρ H d v → RIs kvs ents → RIs ((i, d) :: kvs) ((Sum.inl i, v) :: ents)
inductive RFs : List (Str × D) → List (Str × V) → Prop
  | nil : RFs [] []
  | cons {f d v fs ents} : RV G.K B ρ H d v → RFs fs ents → RFs ((f, d) :: fs) ((f, v) :: ents)
def LkAt (lk : Bool) (a : Addr) (u : HO) : Prop := if lk = true then a ∈ L ∧ ∃ od, H a = some (.frz od u) else H a = some u
/-- the class of the objects -/
def BdIn (K : PySem.W.Frag) (C : Addr) : Prop := PySem.W.nsIn K mainGlobals "Board" = some (some (.ref C))
/-- what stands at a for an object of the store -/
def RO (a : Addr) : Ob → Prop
  | .lst ds => ∃ vs, H a = some (.lst vs) ∧ RVs G.K B ρ H ds vs
  | .dct lk kvs => ∃ ents, LkAt L H lk a (dx G.P G.w a ents) ∧ RKs G B ρ H kvs ents
  | .dki lk kvs => ∃ ents, LkAt L H lk a (.dK ents) ∧ RIs G B ρ H kvs ents
  | .ins fs => ∃ C dx ents, BdIn G.K C ∧ H a = some (.ins C dx ents) ∧ RFs G B ρ H fs ents
/-- the store as it stands -/
structure RH (S : Sto) : Prop where
  len : ρ.length = S.length
  nd : ρ.Nodup
  dj : ∀ a, a ∈ ρ → a ∉ B
  avo : ∀ b, b ∈ B → ∃ u, H b = some u
  lk : ∀ a, a ∈ L → ∃ o u, H a = some (.frz o u)
  ob : ∀ (n : Nat) (a : Addr) (o : Ob), ρ[n]? = some a → S[n]? = some o → RO G B L ρ H a o
end
section
variable {G : Pg} {B L ρ ρ' : List Addr} {H H' : Hp} {S : Sto}
theorem RKs.mono (p : Post L ρ H ρ' H') : ∀ {kvs ents}, RKs G B ρ H kvs ents → RKs G B ρ' H' kvs ents
  | _, _, .nil => .nil
  | _, _, .cons h1 h2 h3 h4 r => .cons h1 (h2.mono p) h3 (h4.mono p) (r.mono p)
theorem RIs.mono (p : Post L ρ H ρ' H') : ∀ {kvs ents}, RIs G B ρ H kvs ents → RIs G B ρ' H' kvs ents
  | _, _, .nil => .nil
  | _, _, .cons h1 r => .cons (h1.mono p) (r.mono p)
theorem RFs.mono (p : Post L ρ H ρ' H') : ∀ {kvs ents}, RFs G B ρ H kvs ents → RFs G B ρ' H' kvs ents
  | _, _, .nil => .nil
  | _, _, .cons h1 r => .cons (h1.mono p) (r.mono p)
theorem RH.there (R : RH G B L ρ H S) {n : Nat} {a : Addr} (h : ρ[n]? = some a) : ∃ u, H a = some u := by
  have hn : n < S.length := by rw [← R.len]; exact (List.getElem?_eq_some_iff.mp h).1
  have q := R.ob n a _ h (List.getElem?_eq_getElem hn)
  cases e : S[n] with
  | lst ds => rw [e] at q; obtain ⟨vs, q, _⟩ := q; exact ⟨_, q⟩
  | dct lk kvs =>
    rw [e] at q; obtain ⟨vs, q, _⟩ := q
    cases lk with
    | true => obtain ⟨_, _, q⟩ := q; exact ⟨_, q⟩
    | false => exact ⟨_, q⟩
  | dki lk kvs =>
    rw [e] at q; obtain ⟨vs, q, _⟩ := q
    cases lk with
    | true => obtain ⟨_, _, q⟩ := q; exact ⟨_, q⟩
    | false => exact ⟨_, q⟩
  | ins fs => rw [e] at q; obtain ⟨_, _, _, _, q, _⟩ := q; exact ⟨_, q⟩
theorem RH.someM (R : RH G B L ρ H S) {a : Addr} (h : a ∈ ρ) : ∃ u, H a = some u := by
  obtain ⟨n, h⟩ := List.mem_iff_getElem?.mp h
  exact R.there h
theorem RH.fresh (R : RH G B L ρ H S) {p : Addr} (h : H p = none) : p ∉ ρ ∧ p ∉ B :=
  ⟨fun z => (by obtain ⟨u, e⟩ := R.someM z; rw [h] at e; cases e), fun z => (by obtain ⟨u, e⟩ := R.avo _ z; rw [h] at e; cases e)⟩
/-- the same objects behind a step that writes none of them -/
theorem RO.mono (p : Post L ρ H ρ' H') {a : Addr} {o : Ob} (k : H' a = H a) (h : RO G B L ρ H a o) : RO G B L ρ' H' a o := by
  cases o with
  | lst ds => obtain ⟨vs, e, r⟩ := h; exact ⟨vs, k.trans e, RVs.mono p _ _ r⟩
  | dct lk kvs => obtain ⟨ents, e, r⟩ := h; refine ⟨ents, ?_, r.mono p⟩; unfold LkAt at e ⊢; rw [k]; exact e
  | dki lk kvs => obtain ⟨ents, e, r⟩ := h; refine ⟨ents, ?_, r.mono p⟩; unfold LkAt at e ⊢; rw [k]; exact e
  | ins fs => obtain ⟨C, d, ents, hb, e, r⟩ := h; exact ⟨C, d, ents, hb, k.trans e, r.mono p⟩
/-- a new object that is not of the store -/
theorem Post.newV {p : Addr} {o : HO} (h : H p = none) : Post L ρ H ρ (upd H p o) :=
  ⟨fun a u _ e => by rw [upd_ne (ne_of_none e h)]; exact e, ⟨[], by simp⟩, fun _ h => .inl h⟩
theorem RH.newV (R : RH G B L ρ H S) {p : Addr} {o : HO} (h : H p = none) : RH G B L ρ (upd H p o) S where
  len := R.len
  nd := R.nd
  dj := R.dj
  avo := fun b hb => let ⟨u, e⟩ := R.avo b hb; ⟨u, by rw [upd_ne (ne_of_none e h)]; exact e⟩
  lk := fun b hb => let ⟨ob, u, e⟩ := R.lk b hb; ⟨ob, u, by rw [upd_ne (ne_of_none e h)]; exact e⟩
  ob := fun n a ob h1 h2 => by
    obtain ⟨u, e⟩ := R.there h1
    exact (R.ob n a ob h1 h2).mono (Post.newV h) (upd_ne (ne_of_none e h))
/-- a new object of the store -/
theorem Post.newL {p : Addr} {o : HO} (h : H p = none) : Post L ρ H (ρ ++ [p]) (upd H p o) :=
  ⟨fun a u _ e => by rw [upd_ne (ne_of_none e h)]; exact e, ⟨[p], rfl⟩, fun a z => (List.mem_append.mp z).imp id fun z => by simp at z; rw [z]; exact h⟩
theorem RH.newL (R : RH G B L ρ H S) {p : Addr} {o : HO} {ob : Ob} (h : H p = none) (q : RO G B L (ρ ++ [p]) (upd H p o) p ob) : RH G B L (ρ ++ [p]) (upd H p o) (S ++ [ob]) where
  len := by simp [R.len]
  nd := by
    rw [List.nodup_append]
    refine ⟨R.nd, by simp, fun a ha b hb => ?_⟩
    simp at hb; subst hb
    rintro rfl
    exact (R.fresh h).1 ha
  dj := fun a ha => (List.mem_append.mp ha).elim (R.dj a) fun z => by simp at z; rw [z]; exact (R.fresh h).2
  avo := fun b hb => let ⟨u, e⟩ := R.avo b hb; ⟨u, by rw [upd_ne (ne_of_none e h)]; exact e⟩
  lk := fun b hb => let ⟨ob, u, e⟩ := R.lk b hb; ⟨ob, u, by rw [upd_ne (ne_of_none e h)]; exact e⟩
  ob := fun n a ob' h1 h2 => by
    by_cases hn : n < ρ.length
    · rw [List.getElem?_append_left hn] at h1
      rw [List.getElem?_append_left (by rw [← R.len]; exact hn)] at h2
      obtain ⟨u, e⟩ := R.there h1
      exact (R.ob n a ob' h1 h2).mono (Post.newL h) (upd_ne (ne_of_none e h))
    · have hn' : n = ρ.length := by
        have := (List.getElem?_eq_some_iff.mp h1).1
        simp at this; omega
      subst hn'
      rw [List.getElem?_append_right (Nat.le_refl _)] at h1
      rw [R.len, List.getElem?_append_right (Nat.le_refl _)] at h2
      simp at h1 h2
      subst h1; subst h2
      exact q
/-- an object of the store is written -/
theorem Post.wr {n : Nat} {a : Addr} {o : HO} (h : ρ[n]? = some a) (hl : a ∉ L) : Post L ρ H ρ (upd H a o) :=
  ⟨fun b u hb e => by
    rw [upd_ne]
    · exact e
    · rintro rfl
      exact hb.elim (fun z => z (List.mem_of_getElem? h)) hl, ⟨[], by simp⟩, fun _ h => .inl h⟩
theorem RH.wr (R : RH G B L ρ H S) {n : Nat} {a : Addr} {o : HO} {ob : Ob} (h : ρ[n]? = some a) (hl : a ∉ L) (q : RO G B L ρ (upd H a o) a ob) : RH G B L ρ (upd H a o) (S.set n ob) where
  len := by simp [R.len]
  nd := R.nd
  dj := R.dj
  avo := fun b hb => let ⟨u, e⟩ := R.avo b hb; ⟨u, by
    rw [upd_ne]
    · exact e
    · rintro rfl; exact R.dj _ (List.mem_of_getElem? h) hb⟩
  lk := fun b hb => let ⟨ob, u, e⟩ := R.lk b hb; ⟨ob, u, by
    rw [upd_ne]
    · exact e
    · rintro rfl; exact hl hb⟩
  ob := fun m b ob' h1 h2 => by
    by_cases hm : n = m
    · subst hm
      rw [h] at h1; cases h1
      rw [List.getElem?_set_self (by rw [← R.len]; exact (List.getElem?_eq_some_iff.mp h).1)] at h2
      cases h2
      exact q
    · rw [List.getElem?_set_ne hm] at h2
      have hne : b ≠ a := fun e => hm (nodup_ix' R.nd h (e ▸ h1))
      exact (R.ob m b ob' h1 h2).mono (Post.wr h hl) (upd_ne hne)
where
  nodup_ix' {α : Type} {l : List α} (hN : l.Nodup) {i j : Nat} {x : α} (a : l[i]? = some x) (b : l[j]? = some x) : i = j := L2.nd_ix hN a b
theorem RH.notL (R : RH G B L ρ H S) {a : Addr} {u : HO} (h : H a = some u) (hu : ∀ o z, u ≠ .frz o z) : a ∉ L := fun z => by
  obtain ⟨o, w, e⟩ := R.lk a z
  rw [h] at e; cases e; exact hu _ _ rfl
end
end Sf
end

section
set_option Elab.async false
set_option maxRecDepth 100000
set_option linter.all false
/-! Sf2: judgements: an expression is worth a function of the environment and the store. -/
namespace Sf
open PySem PySem.Spec PyProof.Rows L2

abbrev XM := Nat → Value
/-- what is wanted behind an outcome -/
def GO {α β : Type} (G : Pg) (W : WX) (xm : XM) (B L ρ : List Addr) (H : Hp) (σ : L2.St) (rel : List Addr → Hp → α → β → Prop) (r : Out α) (Q : β → Hp → Prop) : Prop :=
  match r with
  | .ok d S' => ∀ v ρ' H', Post L ρ H ρ' H' → RH G B L ρ' H' S' → rel ρ' H' d v → Q v H'
  | .exc c S' => ∀ ρ' H', Post L ρ H ρ' H' → RH G B L ρ' H' S' → W (xm c) none σ H'
  | .bad => False
structure At (G : Pg) (B L ρ : List Addr) (S : Sto) (env : En) (σ : L2.St) (H : Hp) : Prop where
  rh : RH G B L ρ H S
  re : RE G.K B ρ H env σ
theorem At.step {G : Pg} {B L ρ ρ' : List Addr} {S S' : Sto} {env : En} {σ : L2.St} {H H' : Hp} (a : At G B L ρ S env σ H) (p : Post L ρ H ρ' H') (r : RH G B L ρ' H' S') : At G B L ρ' S' env σ H' := ⟨r, a.re.mono p⟩
section
variable {α β : Type} {G : Pg} {W : WX} {xm : XM} {B L ρ ρ' : List Addr} {H H' : Hp} {σ : L2.St} {rel : List Addr → Hp → α → β → Prop} {r : Out α} {Q : β → Hp → Prop}
theorem GO.step (g : GO G W xm B L ρ H σ rel r Q) (p : Post L ρ H ρ' H') : GO G W xm B L ρ' H' σ rel r Q := by
  cases r with
  | ok d S' => exact fun v ρ2 H2 q R x => g v ρ2 H2 (p.trans q) R x
  | exc c S' => exact fun ρ2 H2 q R => g ρ2 H2 (p.trans q) R
  | bad => exact g
end
abbrev rD (G : Pg) (B : List Addr) : List Addr → Hp → D → V → Prop := fun ρ H d v => RV G.K B ρ H d v
abbrev rB : List Addr → Hp → Bool → Bool → Prop := fun _ _ a b => a = b
abbrev rL (G : Pg) (B : List Addr) : List Addr → Hp → List D → List V → Prop := fun ρ H d v => RVs G.K B ρ H d v
abbrev FE := En → Sto → Out D
abbrev FT := En → Sto → Out Bool
abbrev FA := En → Sto → Out (List D)
section
variable (G : Pg) (W : WX) (xm : XM)
def tE (f : FE) : TE := fun σ H Q => ∃ B L ρ S env, At G B L ρ S env σ H ∧ GO G W xm B L ρ H σ (rD G B) (f env S) Q
def tT (f : FT) : TT := fun σ H Q => ∃ B L ρ S env, At G B L ρ S env σ H ∧ GO G W xm B L ρ H σ rB (f env S) Q
def tA (f : FA) : TA := fun σ H Q => ∃ B L ρ S env, At G B L ρ S env σ H ∧ GO G W xm B L ρ H σ (rL G B) (f env S) Q
end
theorem PE.imp {X : Cx} {e : Expr} {t t' : TE} (h : PE X e t) (i : ∀ σ H Q, t' σ H Q → t σ H Q) : PE X e t' := ⟨fun pins s σ H Q I q => h.run pins s σ H Q I (i σ H Q q)⟩
theorem PT.imp {X : Cx} {e : Expr} {t t' : TT} (h : PT X e t) (i : ∀ σ H Q, t' σ H Q → t σ H Q) : PT X e t' := ⟨fun pins s σ H Q I q => h.run pins s σ H Q I (i σ H Q q)⟩
theorem PW.imp {X : Cx} {e : Expr} {t t' : TT} (h : PW X e t) (i : ∀ σ H Q, t' σ H Q → t σ H Q) : PW X e t' := ⟨fun wh pins s σ H Q I q => h.run wh pins s σ H Q I (i σ H Q q)⟩
theorem PA.imp {X : Cx} {es : List Expr} {t t' : TA} (h : PA X es t) (i : ∀ σ H Q, t' σ H Q → t σ H Q) : PA X es t' := ⟨fun pos pins s σ H Q I q => h.run pos pins s σ H Q I (i σ H Q q)⟩
theorem PS.imp {X : Cx} {st : Stmt} {t t' : TS} (h : PS X st t) (i : ∀ D σ H, t' D σ H → t D σ H) : PS X st t' := ⟨fun pins s σ H D I q => h.run pins s σ H D I (i D σ H q)⟩
theorem PSs.imp {X : Cx} {st : List Stmt} {t t' : TS} (h : PSs X st t) (i : ∀ D σ H, t' D σ H → t D σ H) : PSs X st t' := ⟨fun pins s σ H D I q => h.run pins s σ H D I (i D σ H q)⟩

/-- the program's parts as X has them -/
abbrev pg (X : Cx) : Pg := ⟨X.prog, X.w, X.K⟩
/-- X, its wish W about exceptions, the exceptions' classes -/
structure Wx where
  W : WX
  xm : XM
abbrev SE (X : Cx) (w : Wx) (e : Expr) (f : FE) : Prop := PE X e (tE (pg X) w.W w.xm f)
abbrev ST (X : Cx) (w : Wx) (e : Expr) (f : FT) : Prop := PT X e (tT (pg X) w.W w.xm f)
abbrev SW (X : Cx) (w : Wx) (e : Expr) (f : FT) : Prop := PW X e (tT (pg X) w.W w.xm f)
abbrev SA (X : Cx) (w : Wx) (es : List Expr) (f : FA) : Prop := PA X es (tA (pg X) w.W w.xm f)

/-! ### functions -/
def Out.bind {α β : Type} (r : Out α) (k : α → Sto → Out β) : Out β := match r with
  | .ok a S => k a S
  | .exc c S => .exc c S
  | .bad => .bad
def fVar (i : Nat) : FE := fun env S => match env[i]? with
  | some d => match d with
    | .und => .bad
    | d => .ok d S
  | none => .bad
def fCon (d : D) : FE := fun _ S => .ok d S
/-- an operation by values: it raises nothing -/
abbrev Op1 := D → Sto → Option (D × Sto)
abbrev Op2 := D → D → Sto → Option (D × Sto)
abbrev OpN := List D → Sto → Option (D × Sto)
def outO {α : Type} : Option (α × Sto) → Out α
  | some (d, S) => .ok d S
  | none => .bad
def fOp1 (g : Op1) (a : FE) : FE := fun env S => (a env S).bind fun x S1 => outO (g x S1)
def fOp2 (g : Op2) (a b : FE) : FE := fun env S => (a env S).bind fun x S1 => (b env S1).bind fun y S2 => outO (g x y S2)
def fNil : FA := fun _ S => .ok [] S
def fCons (a : FE) (r : FA) : FA := fun env S => (a env S).bind fun x S1 => (r env S1).bind fun xs S2 => .ok (x :: xs) S2
def fOpN (g : OpN) (a : FA) : FE := fun env S => (a env S).bind fun xs S1 => outO (g xs S1)
/-- a value as a bool, as a test -/
def asB : D → Option Bool
  | .bl b => some b
  | _ => none
def tVal (a : FE) : FT := fun env S => (a env S).bind fun x S1 => match x with
  | .bl b => .ok b S1
  | _ => .bad
def tAnd (a b : FT) : FT := fun env S => (a env S).bind fun x S1 => bif x then b env S1 else .ok false S1
def tOr (a b : FT) : FT := fun env S => (a env S).bind fun x S1 => bif x then .ok true S1 else b env S1
def tNot (a : FT) : FT := fun env S => (a env S).bind fun x S1 => .ok (!x) S1
def fIf (c : FT) (a b : FE) : FE := fun env S => (c env S).bind fun x S1 => bif x then a env S1 else b env S1
def fAnd (a b : FE) : FE := fun env S => (a env S).bind fun x S1 => match x with
  | .bl c => bif c then b env S1 else .ok (.bl false) S1
  | _ => .bad
def fOr (a b : FE) : FE := fun env S => (a env S).bind fun x S1 => match x with
  | .bl c => bif c then .ok (.bl true) S1 else b env S1
  | _ => .bad
def fNot (a : FE) : FE := fun env S => (a env S).bind fun x S1 => match x with
  | .bl c => .ok (.bl (!c)) S1
  | _ => .bad

section
variable {X : Cx} {w : Wx} {G : Pg} {W : WX} {xm : XM} {e a b c : Expr} {es rest : List Expr} {f fa fb fc : FE} {ft ft' : FT} {fs : FA} {pos : Pos}
/-- the first part of a bind -/
theorem tE_bind {α β : Type} {rel : List Addr → List Addr → Hp → α → β → Prop} {B L ρ S env σ H} {k : D → Sto → Out α} {Q : β → Hp → Prop} (A : At G B L ρ S env σ H) (g : GO G W xm B L ρ H σ (rel B) ((f env S).bind k) Q) :
    tE G W xm f σ H fun x H1 => ∃ B L ρ S d, At G B L ρ S env σ H1 ∧ RV G.K B ρ H1 d x ∧ GO G W xm B L ρ H1 σ (rel B) (k d S) Q := by
  refine ⟨B, L, ρ, S, env, A, ?_⟩
  revert g
  cases f env S with
  | ok d S' => exact fun g v ρ' H' p R r => ⟨B, L, ρ', S', d, A.step p R, r, GO.step g p⟩
  | exc c S' => exact fun g => g
  | bad => exact fun g => g
theorem tT_bind {α β : Type} {rel : List Addr → List Addr → Hp → α → β → Prop} {B L ρ S env σ H} {k : Bool → Sto → Out α} {Q : β → Hp → Prop} (A : At G B L ρ S env σ H) (g : GO G W xm B L ρ H σ (rel B) ((ft env S).bind k) Q) :
    tT G W xm ft σ H fun x H1 => ∃ B L ρ S, At G B L ρ S env σ H1 ∧ GO G W xm B L ρ H1 σ (rel B) (k x S) Q := by
  refine ⟨B, L, ρ, S, env, A, ?_⟩
  revert g
  cases ft env S with
  | ok d S' => exact fun g v ρ' H' p R r => ⟨B, L, ρ', S', A.step p R, by cases r; exact GO.step g p⟩
  | exc c S' => exact fun g => g
  | bad => exact fun g => g
theorem tA_bind {α β : Type} {rel : List Addr → List Addr → Hp → α → β → Prop} {B L ρ S env σ H} {k : List D → Sto → Out α} {Q : β → Hp → Prop} (A : At G B L ρ S env σ H) (g : GO G W xm B L ρ H σ (rel B) ((fs env S).bind k) Q) :
    tA G W xm fs σ H fun x H1 => ∃ B L ρ S d, At G B L ρ S env σ H1 ∧ RVs G.K B ρ H1 d x ∧ GO G W xm B L ρ H1 σ (rel B) (k d S) Q := by
  refine ⟨B, L, ρ, S, env, A, ?_⟩
  revert g
  cases fs env S with
  | ok d S' => exact fun g v ρ' H' p R r => ⟨B, L, ρ', S', d, A.step p R, r, GO.step g p⟩
  | exc c S' => exact fun g => g
  | bad => exact fun g => g
theorem tE_bind2 {α β : Type} {rel : List Addr → List Addr → Hp → α → β → Prop} {B L ρ S env σ H} {k : D → D → Sto → Out α} {Q : β → Hp → Prop} (A : At G B L ρ S env σ H) (g : GO G W xm B L ρ H σ (rel B) ((fa env S).bind fun x S1 => (fb env S1).bind fun y S2 => k x y S2) Q) :
    tE G W xm fa σ H fun x H1 => tE G W xm fb σ H1 fun y H2 => ∃ B L ρ S d d', At G B L ρ S env σ H2 ∧ RV G.K B ρ H2 d x ∧ RV G.K B ρ H2 d' y ∧ GO G W xm B L ρ H2 σ (rel B) (k d d' S) Q := by
  refine ⟨B, L, ρ, S, env, A, ?_⟩
  revert g
  cases fa env S with
  | ok d S' =>
    intro g v ρ' H' p R r
    have g' := GO.step g p
    refine ⟨B, L, ρ', S', env, A.step p R, ?_⟩
    revert g'
    show GO G W xm B L ρ' H' σ (rel B) ((fb env S').bind fun y S2 => k d y S2) Q → _
    cases fb env S' with
    | ok d' S2 => exact fun g' v2 ρ2 H2 p2 R2 r2 => ⟨B, L, ρ2, S2, d, d', (A.step p R).step p2 R2, r.mono p2, r2, GO.step g' p2⟩
    | exc c S' => exact fun g => g
    | bad => exact fun g => g
  | exc c S' => exact fun g => g
  | bad => exact fun g => g

/-! ### what an operation's rule asks, answered by its function -/
abbrev Ok1 (G : Pg) (r : V → Hp → VK → Prop) (g : Op1) : Prop := ∀ (B L ρ : List Addr) (S S' : Sto) (H : Hp) (d d' : D) (x : V) (Q : VK), RH G B L ρ H S → RV G.K B ρ H d x → g d S = some (d', S') →
  (∀ v ρ' H', Post L ρ H ρ' H' → RH G B L ρ' H' S' → RV G.K B ρ' H' d' v → Q v H') → r x H Q
abbrev Ok2 (G : Pg) (r : R2) (g : Op2) : Prop := ∀ (B L ρ : List Addr) (S S' : Sto) (H : Hp) (d1 d2 d' : D) (x y : V) (Q : VK), RH G B L ρ H S → RV G.K B ρ H d1 x → RV G.K B ρ H d2 y → g d1 d2 S = some (d', S') →
  (∀ v ρ' H', Post L ρ H ρ' H' → RH G B L ρ' H' S' → RV G.K B ρ' H' d' v → Q v H') → r x y H Q
abbrev OkN (G : Pg) (r : List V → Hp → VK → Prop) (g : OpN) : Prop := ∀ (B L ρ : List Addr) (S S' : Sto) (H : Hp) (ds : List D) (d' : D) (xs : List V) (Q : VK), RH G B L ρ H S → RVs G.K B ρ H ds xs → g ds S = some (d', S') →
  (∀ v ρ' H', Post L ρ H ρ' H' → RH G B L ρ' H' S' → RV G.K B ρ' H' d' v → Q v H') → r xs H Q
theorem GO.outO {α β : Type} {rel : List Addr → Hp → α → β → Prop} {B L ρ H σ} {r : Option (α × Sto)} {Q : β → Hp → Prop} (g : GO G W xm B L ρ H σ rel (Sf.outO r) Q) : ∃ d S', r = some (d, S') ∧ ∀ v ρ' H', Post L ρ H ρ' H' → RH G B L ρ' H' S' → rel ρ' H' d v → Q v H' := by
  cases r with
  | none => exact g.elim
  | some p => obtain ⟨d, S'⟩ := p; exact ⟨d, S', rfl, g⟩
/-- an outcome that is there -/
theorem GO.ok0 {α β : Type} {rel : List Addr → Hp → α → β → Prop} {B L ρ H σ S env} {d : α} {Q : β → Hp → Prop} {v : β} (g : GO G W xm B L ρ H σ rel (.ok d S) Q) (A : At G B L ρ S env σ H) (r : rel ρ H d v) : Q v H := g v ρ H Post.refl A.rh r

theorem GO.mono {α β : Type} {rel : List Addr → Hp → α → β → Prop} {B L ρ H σ} {r : Out α} {Q Q' : β → Hp → Prop} (g : GO G W xm B L ρ H σ rel r Q) (h : ∀ v H', Q v H' → Q' v H') : GO G W xm B L ρ H σ rel r Q' := by
  cases r with
  | ok d S' => exact fun v ρ' H' p R r => h _ _ (g v ρ' H' p R r)
  | exc c S' => exact g
  | bad => exact g
theorem tE_mono {σ H Q Q'} (h : tE G W xm f σ H Q) (i : ∀ v H', Q v H' → Q' v H') : tE G W xm f σ H Q' := let ⟨B, L, ρ, S, env, A, g⟩ := h; ⟨B, L, ρ, S, env, A, g.mono i⟩
theorem tT_mono {σ H Q Q'} (h : tT G W xm ft σ H Q) (i : ∀ v H', Q v H' → Q' v H') : tT G W xm ft σ H Q' := let ⟨B, L, ρ, S, env, A, g⟩ := h; ⟨B, L, ρ, S, env, A, g.mono i⟩
theorem tA_mono {σ H Q Q'} (h : tA G W xm fs σ H Q) (i : ∀ v H', Q v H' → Q' v H') : tA G W xm fs σ H Q' := let ⟨B, L, ρ, S, env, A, g⟩ := h; ⟨B, L, ρ, S, env, A, g.mono i⟩
theorem se_imp {t : TE} (h : PE X e t) (i : ∀ σ H Q, tE (pg X) w.W w.xm f σ H Q → t σ H Q) : SE X w e f := PE.imp h i
theorem se_var {i : Nat} {x : Str} (h : PE X (.Name x pos) (tVar i)) : SE X w (.Name x pos) (fVar i) := by
  refine PE.imp h fun σ H Q ⟨B, L, ρ, S, env, A, g⟩ => ?_
  unfold fVar at g
  cases q : env[i]? with
  | none => rw [q] at g; exact g.elim
  | some d =>
    rw [q] at g
    rcases A.re.at' i d q with z | ⟨v, e1, r⟩
    · subst z; exact g.elim
    · refine ⟨v, e1, ?_⟩
      cases d
      case und => cases r
      all_goals exact GO.ok0 g A r
theorem se_con {v : V} {d : D} (h : PE X e (tC v)) (r : ∀ B ρ H, RV X.K B ρ H d v) : SE X w e (fCon d) := by
  refine PE.imp h fun σ H Q ⟨B, L, ρ, S, env, A, g⟩ => ?_
  exact GO.ok0 g A (r _ _ _)
theorem se_int {i : Int} {j} : SE X w (.Constant (.int i) j pos) (fCon (.int i)) := se_con pe_int fun _ _ _ => .int i
theorem se_bl {i : Bool} {j} : SE X w (.Constant (.bool i) j pos) (fCon (.bl i)) := se_con pe_bl fun _ _ _ => .bl i
theorem se_non {j} : SE X w (.Constant .none j pos) (fCon .non) := se_con pe_non fun _ _ _ => .non
theorem se_str {x : Str} {j} : SE X w (.Constant (.str x) j pos) (fCon (.str x)) := se_con pe_str fun _ _ _ => .str x
theorem go_op1 {r : V → Hp → VK → Prop} {g : Op1} (h : Ok1 (pg X) r g) {σ H Q env} {B L ρ : List Addr} {S : Sto} (A : At (pg X) B L ρ S env σ H) (gg : GO (pg X) w.W w.xm B L ρ H σ (rD (pg X) B) ((fa env S).bind fun x S1 => outO (g x S1)) Q) :
    tE (pg X) w.W w.xm fa σ H fun x H1 => r x H1 Q :=
  tE_mono (tE_bind (rel := rD (pg X)) A gg) fun x H1 ⟨B, L, ρ, S, d, A, r, g⟩ => let ⟨d', S', e, q⟩ := g.outO; h B L ρ S S' H1 d d' x Q A.rh r e q
theorem go_op2 {r : R2} {g : Op2} (h : Ok2 (pg X) r g) {σ H Q env} {B L ρ : List Addr} {S : Sto} (A : At (pg X) B L ρ S env σ H) (gg : GO (pg X) w.W w.xm B L ρ H σ (rD (pg X) B) (fOp2 g fa fb env S) Q) :
    tE (pg X) w.W w.xm fa σ H fun x H1 => tE (pg X) w.W w.xm fb σ H1 fun y H2 => r x y H2 Q :=
  tE_mono (tE_bind2 (rel := rD (pg X)) A gg) fun x H1 h1 => tE_mono h1 fun y H2 ⟨B, L, ρ, S, d, d2, A, r, r2, g⟩ => let ⟨d', S', e, q⟩ := g.outO; h B L ρ S S' H2 d d2 d' x y Q A.rh r r2 e q
theorem se_bin {op : Operator} {r : R2} {g : Op2} (ho : OpR X (binaryOp op) r) (h : Ok2 (pg X) r g) (ha : SE X w a fa) (hb : SE X w b fb) : SE X w (.BinOp a op b pos) (fOp2 g fa fb) :=
  PE.imp (pe_op ho ha hb) fun σ H Q ⟨B, L, ρ, S, env, A, gg⟩ => go_op2 h A gg
theorem se_un {op : UnaryOp} {r : V → Hp → VK → Prop} {g : Op1} (ho : UnR X (unaryOp op) r) (h : Ok1 (pg X) r g) (ha : SE X w a fa) : SE X w (.UnaryOp op a pos) (fOp1 g fa) :=
  PE.imp (pe_un ho ha) fun σ H Q ⟨B, L, ρ, S, env, A, gg⟩ => go_op1 h A gg
theorem se_cmp {op : CmpOp} {r : R2} {g : Op2} (ho : OpR X (compareOp op) r) (h : Ok2 (pg X) r g) (ha : SE X w a fa) (hb : SE X w b fb) (hm : behindInMarks op b = false := by rfl) : SE X w (.Compare a [op] [b] pos) (fOp2 g fa fb) :=
  PE.imp (pe_cmpR ho ha hb hm) fun σ H Q ⟨B, L, ρ, S, env, A, gg⟩ => go_op2 h A gg
/-- an item -/
theorem se_ix {r : R2} {g : Op2} (ho : IxR X r) (h : Ok2 (pg X) r g) (ha : SE X w a fa) (hb : SE X w b fb) (hs : PlainIx b := by intro _ _; rfl) : SE X w (.Subscript a b pos) (fOp2 g fa fb) :=
  PE.imp (pe_ix ho ha hb hs) fun σ H Q ⟨B, L, ρ, S, env, A, gg⟩ => go_op2 h A gg
/-- a value as a test: what the value's test is worth -/
theorem st_val (h : SE X w e f) (he : ∀ whole, isTrue e X.env whole = (do let v ← whole; standAt e.pos; holding [v] (truthy v)) := by intro _; rfl) : ST X w e (tVal f) := by
  refine PT.imp (pt_val h he) fun σ H Q ⟨B, L, ρ, S, env, A, gg⟩ => ?_
  refine tE_mono (tE_bind (rel := fun _ => rB) (f := f) A gg) fun x H1 ⟨B, L, ρ, S, d, A, r, g⟩ => ?_
  cases r with
  | bl c => exact ⟨c, rfl, GO.ok0 g A rfl⟩
  | _ => exact g.elim
/-- a comparison as a test -/
theorem st_cmp {op : CmpOp} {r : R2} {g : Op2} (ho : OpR X (compareOp op) r) (h : Ok2 (pg X) r g) (ha : SE X w a fa) (hb : SE X w b fb) (hm : behindInMarks op b = false := by rfl) : ST X w (.Compare a [op] [b] pos) (tVal (fOp2 g fa fb)) := by
  refine PT.imp (pt_cmpR ho ha hb hm) fun σ H Q ⟨B, L, ρ, S, env, A, gg⟩ => ?_
  have key : tE (pg X) w.W w.xm (fOp2 g fa fb) σ H fun x H1 => ∃ k, x = .bl k ∧ Q k H1 := by
    refine tE_mono (tE_bind (rel := fun _ => rB) (f := fOp2 g fa fb) A gg) fun x H1 ⟨B, L, ρ, S, d, A, r, g⟩ => ?_
    cases r with
    | bl c => exact ⟨c, rfl, GO.ok0 g A rfl⟩
    | _ => exact g.elim
  obtain ⟨B, L, ρ, S, env, A, gg⟩ := key
  exact go_op2 h A gg
theorem st_not (h : ST X w a ft) : ST X w (.UnaryOp .Not a pos) (tNot ft) :=
  PT.imp (pt_not h) fun σ H Q ⟨B, L, ρ, S, env, A, gg⟩ => tT_mono (tT_bind (rel := fun _ => rB) A gg) fun x H1 ⟨B, L, ρ, S, A, g⟩ => GO.ok0 g A rfl
theorem sw_and1 (h : ST X w a ft) : SW X w (.BoolOp .And [a] pos) ft := pw_and1 h
theorem sw_or1 (h : ST X w a ft) : SW X w (.BoolOp .Or [a] pos) ft := pw_or1 h
theorem sw_and (ha : ST X w a ft) (hb : SW X w (.BoolOp .And (b :: rest) pos) ft') : SW X w (.BoolOp .And (a :: b :: rest) pos) (Sf.tAnd ft ft') :=
  PW.imp (pw_and ha hb) fun σ H Q ⟨B, L, ρ, S, env, A, gg⟩ => tT_mono (tT_bind (rel := fun _ => rB) A gg) fun x H1 ⟨B, L, ρ, S, A, g⟩ => by
    cases x with
    | true => exact iteT ⟨B, L, ρ, S, env, A, g⟩
    | false => exact iteF (GO.ok0 g A rfl)
theorem sw_or (ha : ST X w a ft) (hb : SW X w (.BoolOp .Or (b :: rest) pos) ft') : SW X w (.BoolOp .Or (a :: b :: rest) pos) (Sf.tOr ft ft') :=
  PW.imp (pw_or ha hb) fun σ H Q ⟨B, L, ρ, S, env, A, gg⟩ => tT_mono (tT_bind (rel := fun _ => rB) A gg) fun x H1 ⟨B, L, ρ, S, A, g⟩ => by
    cases x with
    | true => exact iteT (GO.ok0 g A rfl)
    | false => exact iteF ⟨B, L, ρ, S, env, A, g⟩
theorem st_bool (h : SW X w e ft) : ST X w e ft := PW.pt h
theorem se_if (hc : ST X w c ft) (ha : SE X w a fa) (hb : SE X w b fb) : SE X w (.IfExp c a b pos) (fIf ft fa fb) :=
  PE.imp (pe_ifExp hc ha hb) fun σ H Q ⟨B, L, ρ, S, env, A, gg⟩ => tT_mono (tT_bind (rel := rD (pg X)) A gg) fun x H1 ⟨B, L, ρ, S, A, g⟩ => by
    cases x with
    | true => exact iteT ⟨B, L, ρ, S, env, A, g⟩
    | false => exact iteF ⟨B, L, ρ, S, env, A, g⟩
theorem se_one {op} (h : SE X w a f) : SE X w (.BoolOp op [a] pos) f := pe_one h
theorem se_and (ha : SE X w a fa) (hb : SE X w (.BoolOp .And (b :: rest) pos) fb) : SE X w (.BoolOp .And (a :: b :: rest) pos) (fAnd fa fb) :=
  PE.imp (pe_and ha hb) fun σ H Q ⟨B, L, ρ, S, env, A, gg⟩ => tE_mono (tE_bind (rel := rD (pg X)) A gg) fun x H1 ⟨B, L, ρ, S, d, A, r, g⟩ => by
    cases r with
    | bl c =>
      refine ⟨c, rfl, ?_⟩
      cases c with
      | true => exact iteT ⟨B, L, ρ, S, env, A, g⟩
      | false => exact iteF (GO.ok0 g A (.bl _))
    | _ => exact g.elim
theorem se_or (ha : SE X w a fa) (hb : SE X w (.BoolOp .Or (b :: rest) pos) fb) : SE X w (.BoolOp .Or (a :: b :: rest) pos) (fOr fa fb) :=
  PE.imp (pe_or ha hb) fun σ H Q ⟨B, L, ρ, S, env, A, gg⟩ => tE_mono (tE_bind (rel := rD (pg X)) A gg) fun x H1 ⟨B, L, ρ, S, d, A, r, g⟩ => by
    cases r with
    | bl c =>
      refine ⟨c, rfl, ?_⟩
      cases c with
      | true => exact iteT (GO.ok0 g A (.bl _))
      | false => exact iteF ⟨B, L, ρ, S, env, A, g⟩
    | _ => exact g.elim
theorem se_not (ha : SE X w a fa) : SE X w (.UnaryOp .Not a pos) (fNot fa) :=
  PE.imp (pe_not ha) fun σ H Q ⟨B, L, ρ, S, env, A, gg⟩ => tE_mono (tE_bind (rel := rD (pg X)) A gg) fun x H1 ⟨B, L, ρ, S, d, A, r, g⟩ => by
    cases r with
    | bl c => exact ⟨c, rfl, GO.ok0 g A (.bl _)⟩
    | _ => exact g.elim
theorem sa_nil : SA X w [] fNil := PA.imp pa_nil fun σ H Q ⟨B, L, ρ, S, env, A, gg⟩ => GO.ok0 gg A .nil
theorem sa_cons (ha : SE X w a fa) (hr : SA X w es fs) (hs : starEach (a :: es) X.env = (false, eval a X.env) :: starEach es X.env := by rfl) : SA X w (a :: es) (fCons fa fs) := by
  refine PA.imp (pa_cons ha hr hs) fun σ H Q ⟨B, L, ρ, S, env, A, gg⟩ => ?_
  refine ⟨B, L, ρ, S, env, A, ?_⟩
  revert gg
  unfold fCons
  cases fa env S with
  | ok d S' =>
    intro g v ρ' H' p R r
    have g' := GO.step g p
    refine ⟨B, L, ρ', S', env, A.step p R, ?_⟩
    revert g'
    show GO (pg X) w.W w.xm B L ρ' H' σ (rL (pg X) B) ((fs env S').bind fun y S2 => .ok (d :: y) S2) Q → _
    cases fs env S' with
    | ok d' S2 => exact fun g' v2 ρ2 H2 p2 R2 r2 => g' _ ρ2 H2 p2 R2 (.cons (r.mono p2) r2)
    | exc c S' => exact fun g => g
    | bad => exact fun g => g
  | exc c S' => exact fun g => g
  | bad => exact fun g => g
theorem go_opN {r : List V → Hp → VK → Prop} {g : OpN} (h : OkN (pg X) r g) {σ H Q env} {B L ρ : List Addr} {S : Sto} (A : At (pg X) B L ρ S env σ H) (gg : GO (pg X) w.W w.xm B L ρ H σ (rD (pg X) B) (fOpN g fs env S) Q) :
    tA (pg X) w.W w.xm fs σ H fun x H1 => r x H1 Q :=
  tA_mono (tA_bind (rel := rD (pg X)) A gg) fun x H1 ⟨B, L, ρ, S, d, A, r, g⟩ => let ⟨d', S', e, q⟩ := g.outO; h B L ρ S S' H1 d d' x Q A.rh r e q
/-- f(e, ..), f a built-in function; T(e, ..) -/
theorem se_callB {x : Str} {p : Pos} {id : String} {r : List V → Hp → VK → Prop} {g : OpN} (hc : CallR X (.builtin id) r) (h : OkN (pg X) r g) (ha : SA X w (e :: es) fs) (hg : Gl X x) (hm : X.mg x = none) (hv : bootBuiltins x = some (.builtin id)) (hn : x ≠ "__name__" := by decide) (hdb : (x == ("__debug__" : Str)) = false := by decide)
    (he : starEach (e :: es) X.env = (false, eval e X.env) :: starEach es X.env := by rfl) (hpl : (backTo pos (starEach es X.env)).any (·.1) = false := by rfl) : SE X w (.Call (.Name x p) (e :: es) [] pos) (fOpN g fs) :=
  PE.imp (pe_callB hc hg hm hv ha hn hdb he hpl) fun σ H Q ⟨B, L, ρ, S, env, A, gg⟩ => go_opN h A gg
theorem se_callTy {x : Str} {p : Pos} {T : String} {r : List V → Hp → VK → Prop} {g : OpN} (hc : CallR X (.type T) r) (h : OkN (pg X) r g) (ha : SA X w (e :: es) fs) (hg : Gl X x) (hm : X.mg x = none) (hv : bootBuiltins x = some (.type T)) (hn : x ≠ "__name__" := by decide) (hdb : (x == ("__debug__" : Str)) = false := by decide)
    (he : starEach (e :: es) X.env = (false, eval e X.env) :: starEach es X.env := by rfl) (hpl : (backTo pos (starEach es X.env)).any (·.1) = false := by rfl) : SE X w (.Call (.Name x p) (e :: es) [] pos) (fOpN g fs) :=
  PE.imp (pe_callTy hc hg hm hv ha hn hdb he hpl) fun σ H Q ⟨B, L, ρ, S, env, A, gg⟩ => go_opN h A gg
end
end Sf
end

section
set_option Elab.async false
set_option maxRecDepth 100000
set_option linter.all false
/-! Sf3: the operations by values. -/
namespace Sf
open PySem PySem.Spec PyProof.Rows L2

/-- what a list's place holds -/
def lsW : D → Sto → Option (List D)
  | .lst l, _ => some l
  | .loc n, S => match S[n]? with
    | some (.lst l) => some l
    | _ => none
  | _, _ => none
def lsR : D → Sto → Option (List D)
  | .scr l, _ => some l
  | d, S => lsW d S
def mkL (m : Bool) (l : List D) (S : Sto) : Option (D × Sto) := bif fit l.length then (bif m then some (.loc S.length, S ++ [.lst l]) else some (.lst l, S)) else none
def intsD : List D → Option (List Int)
  | [] => some []
  | .int i :: r => match intsD r with
    | some ns => some (i :: ns)
    | none => none
  | _ :: _ => none
def blsD : List D → Option (List Bool)
  | [] => some []
  | .bl i :: r => match blsD r with
    | some ns => some (i :: ns)
    | none => none
  | _ :: _ => none

section
variable {G : Pg} {B L ρ : List Addr} {S S' : Sto} {H : Hp} {d d' : D} {x : V} {l : List D} {Q : VK}
theorem lsW_ok (R : RH G B L ρ H S) (r : RV G.K B ρ H d x) (e : lsW d S = some l) : ∃ a vs, x = .ref a ∧ H a = some (.lst vs) ∧ RVs G.K B ρ H l vs := by
  cases r with
  | lst h1 h2 h3 h4 => cases e; exact ⟨_, _, rfl, h3, h4⟩
  | @loc n a h =>
    unfold lsW at e
    simp only at e
    cases q : S[n]? with
    | none => rw [q] at e; cases e
    | some o =>
      rw [q] at e
      cases o with
      | lst ds => cases e; obtain ⟨vs, h1, h2⟩ := R.ob n a _ h q; exact ⟨_, _, rfl, h1, h2⟩
      | _ => cases e
  | _ => cases e
theorem lsR_ok (R : RH G B L ρ H S) (r : RV G.K B ρ H d x) (e : lsR d S = some l) : ∃ a vs, x = .ref a ∧ SqL G.K H a vs ∧ RVs G.K B ρ H l vs := by
  cases r with
  | scr h1 h2 => cases e; exact ⟨_, _, rfl, h1.sq, h2⟩
  | lst h1 h2 h3 h4 => obtain ⟨a, vs, e1, e2, e3⟩ := lsW_ok R (.lst h1 h2 h3 h4) e; exact ⟨a, vs, e1, .inl (.inl e2), e3⟩
  | loc h => obtain ⟨a, vs, e1, e2, e3⟩ := lsW_ok R (.loc h) e; exact ⟨a, vs, e1, .inl (.inl e2), e3⟩
  | _ => cases e
theorem intsD_ok : ∀ {l : List D} {ns : List Int} {vs : List V}, RVs G.K B ρ H l vs → intsD l = some ns → vs = ns.map V.int
  | [], _, _, .nil, e => by cases e; rfl
  | d :: r, ns, _, .cons h t, e => by
    cases h with
    | int i =>
      unfold intsD at e
      cases q : intsD r with
      | none => rw [q] at e; cases e
      | some ms => rw [q] at e; cases e; rw [intsD_ok t q]; rfl
    | _ => cases e
theorem blsD_ok : ∀ {l : List D} {ns : List Bool} {vs : List V}, RVs G.K B ρ H l vs → blsD l = some ns → vs = ns.map V.bl
  | [], _, _, .nil, e => by cases e; rfl
  | d :: r, ns, _, .cons h t, e => by
    cases h with
    | bl i =>
      unfold blsD at e
      cases q : blsD r with
      | none => rw [q] at e; cases e
      | some ms => rw [q] at e; cases e; rw [blsD_ok t q]; rfl
    | _ => cases e
abbrev Fin (G : Pg) (B L ρ : List Addr) (H : Hp) (S' : Sto) (d' : D) (Q : VK) : Prop := ∀ v ρ' H', Post L ρ H ρ' H' → RH G B L ρ' H' S' → RV G.K B ρ' H' d' v → Q v H'
theorem here (q : Fin G B L ρ H S' d' Q) (R : RH G B L ρ H S') (r : RV G.K B ρ H d' x) : Q x H := q x ρ H Post.refl R r
theorem mkL_ok {m : Bool} {vs : List V} (R : RH G B L ρ H S) (r : RVs G.K B ρ H l vs) (e : mkL m l S = some (d', S')) (q : Fin G B L ρ H S' d' Q) : vs.length ≤ sizeLine ∧ ∀ p, H p = none → Q (.ref p) (upd H p (.lst vs)) := by
  unfold mkL at e
  cases hf : fit l.length with
  | false => rw [hf] at e; cases e
  | true =>
    rw [hf] at e
    refine ⟨by rw [← r.length]; exact fit_le hf, fun p hp => ?_⟩
    cases m with
    | false =>
      cases e
      exact q _ ρ _ (Post.newV hp) (R.newV hp) (.lst (R.fresh hp).2 (R.fresh hp).1 upd_same (RVs.mono (Post.newV (L := L) hp) _ _ r))
    | true =>
      cases e
      refine q _ (ρ ++ [p]) _ (Post.newL hp) (R.newL hp ⟨vs, upd_same, RVs.mono (Post.newL (L := L) hp) _ _ r⟩) (.loc ?_)
      rw [← R.len, List.getElem?_append_right (Nat.le_refl _)]
      simp
theorem mkT_ok {vs : List V} (R : RH G B L ρ H S) (r : RVs G.K B ρ H l vs) (q : Fin G B L ρ H S (.tup l) Q) : ∀ p, H p = none → Q (.ref p) (upd H p (.tup vs)) := fun p hp =>
  q _ ρ _ (Post.newV hp) (R.newV hp) (.tup ⟨(R.fresh hp).2, (R.fresh hp).1, upd_same⟩ (RVs.mono (Post.newV (L := L) hp) _ _ r))
end

section
open HT
theorem tuple_mulW1 (l : Addr) (items : Array Value) (n : Nat) (dd : Option Addr) (sl : Array (Option Value)) (u : Tok) :
    Meets (Builtin.«tuple.__mul__» ⟨[.ref l, .int 1 u], []⟩) (fun _ R s => s.heap.get? l = some { cls := .type "tuple", dict := dd, data := .seq items n, slots := sl } ∧
      R (.ok (.ret (Value.ref l))) s) :=
  .of_wp fun prog w A R s h => by
    obtain ⟨hp, g, d, tk, os⟩ := s
    obtain ⟨hl, h⟩ := h
    have f1 := AutoSeq1.idx_int
    have ht : Shared.TypeIs ⟨hp, g, d, tk, os⟩ (.ref l) "tuple" := ⟨_, hl, rfl⟩
    wp_walk using wpAny_loadPart' hl
    exact ⟨_, rfl, h⟩
/-- t * 1 is t itself -/
def rRepT1 (K : PySem.W.Frag) : R2 := fun x y H Q => ∃ l xs, x = .ref l ∧ y = .int 1 ∧ SqT K H l xs ∧ Q (.ref l) H
theorem op_repT1 {X : Cx} : OpR X (binaryOp .Mult) (rRepT1 X.K) := by
  intro pins s σ H x y v u Q I rx ry h
  obtain ⟨l, xs, rfl, rfl, hT, q⟩ := h
  cases rx
  obtain ⟨t, rfl⟩ := ry
  obtain ⟨its, r, ⟨⟨cls, dd, data, sl⟩, ho, hc, n, hd⟩, hs⟩ := I.tuple hT
  simp only at hc hd
  subst hc hd
  exact wpAny_binaryOp_repeat_ref (T := "tuple") (U := "int") (by decide) ⟨_, ho, rfl⟩ (fun s' => typeIs_int s' 1 t) noFill_tuple_mul F.fills_int_mul F.slot_int_rmul repeat_tuple F.slot_int_index.lookup
    (call_meets F.slot_int_rmul (typeIs_int s 1 t) F.entry_int_rmul (F.args_int_rmul_2 _ _) (int_rmul_tuple 1 t l its.toArray n dd sl)
      ⟨ho, rfl, ⟨_, ho, rfl⟩, call_meets F.slot_tuple_mul ⟨_, ho, rfl⟩ F.entry_tuple_mul (F.args_tuple_mul_2 _ _) (tuple_mulW1 l its.toArray n dd sl t) ⟨ho, ⟨.ref l, H, I, rfl, q⟩⟩⟩)
end
/-! ### arithmetic -/
def oAdd (m : Bool) : Op2 := fun x y S => match x, y with
  | .int i, .int j => some (.int (i + j), S)
  | .str a, .str b => bif fit (a.length + b.length) then some (.str (a ++ b), S) else none
  | .tup a, .tup b => bif fit (a.length + b.length) then some (.tup (a ++ b), S) else none
  | x, y => match lsW x S, lsW y S with
    | some a, some b => mkL m (a ++ b) S
    | _, _ => none
def oSub : Op2 := fun x y S => match x, y with
  | .int i, .int j => some (.int (i - j), S)
  | _, _ => none
def mulOk (i j : Int) : Bool := Nat.blt i.natAbs 18446744073709551616 || Nat.blt j.natAbs 18446744073709551616 || Nat.blt (i.natAbs.log2 + j.natAbs.log2) 1000000
def oMul (m : Bool) : Op2 := fun x y S => match x, y with
  | .int i, .int j => bif mulOk i j then some (.int (i * j), S) else none
  | .tup l, .int k => bif decide (k = 1) then some (.tup l, S) else bif (!l.isEmpty) && Nat.ble l.length 1000 && decide (2 ≤ k) && decide (k ≤ 1000) then some (.tup (List.replicate k.toNat l).flatten, S) else none
  | x, .int k => match lsW x S with
    | some l => bif decide (-1000000 ≤ k) && decide (k ≤ 1000000) && fit (l.length * k.toNat) then mkL m (List.replicate k.toNat l).flatten S else none
    | none => none
  | _, _ => none
def oFdiv : Op2 := fun x y S => match x, y with
  | .int i, .int j => bif (decide (0 < j)) && Nat.blt j.natAbs.log2 9000 then some (.int (i / j), S) else
      bif (decide (j < 0)) && Nat.blt j.natAbs.log2 9000 then some (.int (i.fdiv j), S) else none
  | _, _ => none
def oMod : Op2 := fun x y S => match x, y with
  | .int i, .int j => bif (decide (0 < j)) then some (.int (i % j), S) else none
  | _, _ => none
def oPow : Op2 := fun x y S => match x, y with
  | .int i, .int j => bif (decide (0 ≤ j)) && (decide (j ≤ 1000000)) && Nat.blt i.natAbs 18446744073709551616 then some (.int (i ^ j.toNat), S) else none
  | _, _ => none
def oNeg : Op1 := fun x S => match x with
  | .int i => some (.int (-i), S)
  | _ => none

section
variable {X : Cx}
abbrev rAddR (K : PySem.W.Frag) : R2 := fun x y H Q => rI0 (fun i j => .int (i + j)) x y H Q ∨ (∃ i j, x = .str i ∧ y = .str j ∧ i.length + j.length ≤ sizeLine ∧ Q (.str (i ++ j)) H) ∨ rCatA K x y H Q ∨ rCat x y H Q
theorem opr_add : OpR X (binaryOp .Add) (rAddR X.K) := op_add.or (op_add_str.or (op_catA.or op_cat))
theorem ok_add {m : Bool} : Ok2 (pg X) (rAddR X.K) (oAdd m) := by
  intro B L ρ S S' H d1 d2 d' x y Q R r1 r2 e q
  have gen : (match lsW d1 S, lsW d2 S with
    | some a, some b => mkL m (a ++ b) S
    | _, _ => none) = some (d', S') → rAddR X.K x y H Q := by
    intro e
    cases e1 : lsW d1 S with
    | none => rw [e1] at e; cases e
    | some a =>
      cases e2 : lsW d2 S with
      | none => rw [e1, e2] at e; cases e
      | some b =>
        rw [e1, e2] at e
        obtain ⟨p, vs, rfl, hp, rv⟩ := lsW_ok R r1 e1
        obtain ⟨p', vs', rfl, hp', rv'⟩ := lsW_ok R r2 e2
        obtain ⟨z, q⟩ := mkL_ok R (rv.append rv') e q
        exact .inr (.inr (.inr ⟨p, p', vs, vs', rfl, rfl, hp, hp', by simpa using z, q⟩))
  cases r1 with
  | int i =>
    cases r2 with
    | int j => cases e; exact .inl ⟨i, j, rfl, rfl, here q R (.int _)⟩
    | _ => exact gen e
  | str a =>
    cases r2 with
    | str b =>
      unfold oAdd at e
      cases hf : fit (a.length + b.length) with
      | false => simp [hf] at e
      | true => simp [hf] at e; obtain ⟨rfl, rfl⟩ := e; exact .inr (.inl ⟨a, b, rfl, rfl, fit_le hf, here q R (.str _)⟩)
    | _ => exact gen e
  | @tup a vs ds h1 h2 =>
    cases r2 with
    | @tup b ws es k1 k2 =>
      unfold oAdd at e
      cases hf : fit (ds.length + es.length) with
      | false => simp [hf] at e
      | true =>
        simp [hf] at e; obtain ⟨rfl, rfl⟩ := e
        refine .inr (.inr (.inl ⟨a, b, vs, ws, rfl, rfl, h1.sq, k1.sq, by rw [← h2.length, ← k2.length]; exact fit_le hf, fun z => ?_, fun _ z => ?_, fun _ _ p hp => ?_⟩))
        · subst z
          cases h2
          exact here q R (.tup k1 (by simpa using k2))
        · subst z
          cases k2
          exact here q R (.tup h1 (by simpa using h2))
        · exact mkT_ok R (h2.append k2) q p hp
    | _ => exact gen e
  | _ => exact gen e
theorem ok_sub : Ok2 (pg X) (rI0 fun i j => .int (i - j)) oSub := by
  intro B L ρ S S' H d1 d2 d' x y Q R r1 r2 e q
  cases r1 with
  | int i =>
    cases r2 with
    | int j => cases e; exact ⟨i, j, rfl, rfl, here q R (.int _)⟩
    | _ => cases e
  | _ => cases e
theorem mulOk_ok {i j : Int} (h : mulOk i j = true) : CMul i j ∨ CMulW i j := by
  unfold mulOk at h
  rw [Bool.or_eq_true, Bool.or_eq_true] at h
  rcases h with (h | h) | h
  · have h := Nat.le_of_ble_eq_true h
    exact .inl (.inl (by omega))
  · have h := Nat.le_of_ble_eq_true h
    exact .inl (.inr (by omega))
  · exact .inr (Nat.le_of_ble_eq_true h)
abbrev rMulR (K : PySem.W.Frag) : R2 := fun x y H Q => (rI CMul (fun i j => .int (i * j)) x y H Q ∨ rI CMulW (fun i j => .int (i * j)) x y H Q) ∨ rRepT K x y H Q ∨ rRep x y H Q ∨ rRepT1 K x y H Q
theorem opr_mul : OpR X (binaryOp .Mult) (rMulR X.K) := (op_mul.or op_mulW).or (op_repT.or (op_rep.or op_repT1))
theorem ok_mul {m : Bool} : Ok2 (pg X) (rMulR X.K) (oMul m) := by
  intro B L ρ S S' H d1 d2 d' x y Q R r1 r2 e q
  have gen : ∀ k : Int, y = .int k → (match lsW d1 S with
    | some l => bif decide (-1000000 ≤ k) && decide (k ≤ 1000000) && fit (l.length * k.toNat) then mkL m (List.replicate k.toNat l).flatten S else none
    | none => none) = some (d', S') → rMulR X.K x y H Q := by
    intro k hy e
    subst hy
    cases e1 : lsW d1 S with
    | none => rw [e1] at e; cases e
    | some l =>
      rw [e1] at e
      obtain ⟨p, vs, rfl, hp, rv⟩ := lsW_ok R r1 e1
      simp only at e
      cases hf : (decide (-1000000 ≤ k) && decide (k ≤ 1000000) && fit (l.length * k.toNat)) with
      | false => rw [hf] at e; cases e
      | true =>
        rw [hf] at e
        rw [Bool.and_eq_true, Bool.and_eq_true] at hf
        obtain ⟨⟨h1, h2⟩, h3⟩ := hf
        have h1 := of_decide_eq_true h1
        have h2 := of_decide_eq_true h2
        obtain ⟨z, q⟩ := mkL_ok R (rv.rep k.toNat) e q
        exact .inr (.inr (.inl ⟨p, k, vs, rfl, rfl, hp, by omega, by omega, by rw [← rv.length]; exact fit_le h3, q⟩))
  cases r2 with
  | int k =>
    cases r1 with
    | int i =>
      unfold oMul at e
      cases hf : mulOk i k with
      | false => simp [hf] at e
      | true =>
        simp [hf] at e; obtain ⟨rfl, rfl⟩ := e
        rcases mulOk_ok hf with c | c
        · exact .inl (.inl ⟨i, k, rfl, rfl, c, here q R (.int _)⟩)
        · exact .inl (.inr ⟨i, k, rfl, rfl, c, here q R (.int _)⟩)
    | @tup a vs ds h1 h2 =>
      unfold oMul at e
      simp only at e
      cases h1k : decide (k = 1) with
      | true =>
        rw [h1k] at e
        cases e
        exact .inr (.inr (.inr ⟨a, vs, rfl, by rw [of_decide_eq_true h1k], h1.sq, here q R (.tup h1 h2)⟩))
      | false =>
      rw [h1k] at e
      simp only [cond_false] at e
      cases hf : ((!ds.isEmpty) && Nat.ble ds.length 1000 && decide (2 ≤ k) && decide (k ≤ 1000)) with
      | false => rw [hf] at e; cases e
      | true =>
        rw [hf] at e
        cases e
        rw [Bool.and_eq_true, Bool.and_eq_true, Bool.and_eq_true] at hf
        obtain ⟨⟨⟨g1, g2⟩, g3⟩, g4⟩ := hf
        refine .inr (.inl ⟨a, k, vs, rfl, rfl, h1.sq, ?_, of_decide_eq_true g3, of_decide_eq_true g4, by rw [← h2.length]; exact Nat.le_of_ble_eq_true g2, mkT_ok R (h2.rep _) q⟩)
        rintro rfl
        cases h2
        cases g1
    | _ => exact gen k rfl e
  | _ => cases r1 <;> cases e
abbrev rFdv : R2 := rI (fun _ j => j ≠ 0 ∧ j.natAbs.log2 < 9000) fun i j => .int (i.fdiv j)
theorem opr_fdiv : OpR X (binaryOp .FloorDiv) rFdv := opI fun i j _ _ _ _ _ hc q => floordiv_int hc.1 q (.inl (PyProof.noPylong_of_log2 hc.2))
theorem ok_fdiv : Ok2 (pg X) rFdv oFdiv := by
  intro B L ρ S S' H d1 d2 d' x y Q R r1 r2 e q
  cases r1 with
  | int i =>
    cases r2 with
    | int j =>
      unfold oFdiv at e
      simp only at e
      cases hf : ((decide (0 < j)) && Nat.blt j.natAbs.log2 9000) with
      | true =>
        rw [hf] at e
        cases e
        rw [Bool.and_eq_true] at hf
        have h1 := of_decide_eq_true hf.1
        refine ⟨i, j, rfl, rfl, ⟨by omega, Nat.le_of_ble_eq_true hf.2⟩, ?_⟩
        show Q (.int (i.fdiv j)) H
        rw [Int.fdiv_eq_ediv_of_nonneg i (show (0 : Int) ≤ j by omega)]
        exact here q R (.int _)
      | false =>
        rw [hf] at e
        cases hf : ((decide (j < 0)) && Nat.blt j.natAbs.log2 9000) with
        | true =>
          rw [hf] at e
          cases e
          rw [Bool.and_eq_true] at hf
          have h1 := of_decide_eq_true hf.1
          exact ⟨i, j, rfl, rfl, ⟨by omega, Nat.le_of_ble_eq_true hf.2⟩, here q R (.int _)⟩
        | false => rw [hf] at e; cases e
    | _ => cases e
  | _ => cases e
theorem ok_mod : Ok2 (pg X) (rI (fun _ j => 0 < j) fun i j => .int (i % j)) oMod := by
  intro B L ρ S S' H d1 d2 d' x y Q R r1 r2 e q
  cases r1 with
  | int i =>
    cases r2 with
    | int j =>
      unfold oMod at e
      simp only at e
      cases hf : (decide (0 < j)) with
      | true => rw [hf] at e; cases e; exact ⟨i, j, rfl, rfl, of_decide_eq_true hf, here q R (.int _)⟩
      | false => rw [hf] at e; cases e
    | _ => cases e
  | _ => cases e
theorem ok_pow : Ok2 (pg X) (rI CPow fun i j => .int (i ^ j.toNat)) oPow := by
  intro B L ρ S S' H d1 d2 d' x y Q R r1 r2 e q
  cases r1 with
  | int i =>
    cases r2 with
    | int j =>
      unfold oPow at e
      simp only at e
      cases hf : ((decide (0 ≤ j)) && (decide (j ≤ 1000000)) && Nat.blt i.natAbs 18446744073709551616) with
      | true =>
        rw [hf] at e; cases e
        rw [Bool.and_eq_true, Bool.and_eq_true] at hf
        exact ⟨i, j, rfl, rfl, ⟨of_decide_eq_true hf.1.1, of_decide_eq_true hf.1.2, Nat.le_of_ble_eq_true hf.2⟩, here q R (.int _)⟩
      | false => rw [hf] at e; cases e
    | _ => cases e
  | _ => cases e
theorem ok_neg : Ok1 (pg X) (rU fun i => .int (-i)) oNeg := by
  intro B L ρ S S' H d d' x Q R r e q
  cases r with
  | int i => cases e; exact ⟨i, rfl, here q R (.int _)⟩
  | _ => cases e
end

/-! ### comparisons -/
mutual
def D.py : D → Option PyData
  | .non => some .none
  | .bl b => some (.bool b)
  | .int i => some (.int i)
  | .str x => some (.str x)
  | .tup l => (D.pys l).map .tuple
  | .lst l => (D.pys l).map .list
  | .scr l => (D.pys l).map .list
  | _ => none
def D.pys : List D → Option (List PyData)
  | [] => some []
  | d :: ds => match D.py d, D.pys ds with
    | some k, some ks => some (k :: ks)
    | _, _ => none
end
mutual
theorem py_ok {K : PySem.W.Frag} {B ρ : List Addr} {H : Hp} : ∀ (d : D) (x : V) (p : PyData), RV K B ρ H d x → D.py d = some p → Dp K H x p
  | .und, _, _, h, _ => by cases h
  | .non, _, _, .non, e => by cases e; exact .non
  | .bl b, _, _, .bl _, e => by cases e; exact .bl b
  | .int b, _, _, .int _, e => by cases e; exact .int b
  | .str b, _, _, .str _, e => by cases e; exact .str b
  | .tup l, _, p, .tup h r, e => by
    unfold D.py at e
    cases q : D.pys l with
    | none => rw [q] at e; cases e
    | some ks => rw [q] at e; cases e; exact .tup h.sq (pys_ok l _ ks r q)
  | .lst l, _, p, .lst h1 h2 h r, e => by
    unfold D.py at e
    cases q : D.pys l with
    | none => rw [q] at e; cases e
    | some ks => rw [q] at e; cases e; exact .lst (.inl (.inl h)) (pys_ok l _ ks r q)
  | .scr l, _, p, .scr h r, e => by
    unfold D.py at e
    cases q : D.pys l with
    | none => rw [q] at e; cases e
    | some ks => rw [q] at e; cases e; exact .lst h.sq (pys_ok l _ ks r q)
  | .loc _, _, _, _, e => by cases e
  | .glob _, _, _, _, e => by cases e
theorem pys_ok {K : PySem.W.Frag} {B ρ : List Addr} {H : Hp} : ∀ (ds : List D) (xs : List V) (ps : List PyData), RVs K B ρ H ds xs → D.pys ds = some ps → DpAll K H xs ps
  | [], _, _, .nil, e => by cases e; exact .nil
  | d :: ds, _, ps, .cons h t, e => by
    unfold D.pys at e
    cases q : D.py d with
    | none => rw [q] at e; cases e
    | some k =>
      cases q' : D.pys ds with
      | none => rw [q, q'] at e; cases e
      | some ks => rw [q, q'] at e; cases e; exact .cons (py_ok d _ _ h q) (pys_ok ds _ _ t q')
end
/-- a list's place seen as the list -/
def deref (S : Sto) : D → D
  | .loc n => match S[n]? with
    | some (.lst l) => .lst l
    | _ => .loc n
  | d => d
theorem deref_ok {G : Pg} {B L ρ : List Addr} {S : Sto} {H : Hp} {d : D} {x : V} {p : PyData} (R : RH G B L ρ H S) (r : RV G.K B ρ H d x) (e : D.py (deref S d) = some p) : Dp G.K H x p := by
  cases d with
  | loc n =>
    cases r with
    | @loc _ a h =>
    unfold deref at e
    simp only at e
    cases q : S[n]? with
    | none => rw [q] at e; cases e
    | some o =>
      rw [q] at e
      cases o with
      | lst l =>
        obtain ⟨vs, h1, h2⟩ := R.ob n a _ h q
        simp only at e
        unfold D.py at e
        cases q : D.pys l with
        | none => rw [q] at e; cases e
        | some ks => rw [q] at e; cases e; exact .lst (.inl (.inl h1)) (pys_ok l _ ks h2 q)
      | _ => cases e
  | _ => exact py_ok _ _ _ r e
/-- x == y, as a bool -/
def eqB (x y : D) (S : Sto) : Option Bool := match x, y with
  | .int i, .int j => some (decide (i = j))
  | .non, .non => some true
  | .non, .int _ => some false
  | .int _, .non => some false
  | .bl a, .bl b => some (a == b)
  | .str a, .str b => some (decide (a = b))
  | x, y => match D.py (deref S x), D.py (deref S y) with
    | some p, some q => bif SeqAt.shaped p && SeqAt.shaped q then some (PyData.eqv p q) else none
    | _, _ => none
def oEq : Op2 := fun x y S => match eqB x y S with
  | some b => some (.bl b, S)
  | none => none
def oNe : Op2 := fun x y S => match eqB x y S with
  | some b => some (.bl (!b), S)
  | none => none
def oCmp (p : Int → Int → Bool) (q : List Int → List Int → Bool) : Op2 := fun x y S => match x, y with
  | .int i, .int j => some (.bl (p i j), S)
  | .tup a, .tup b => match intsD a, intsD b with
    | some ns, some ms => some (.bl (q ns ms), S)
    | _, _ => none
  | _, _ => none
def oCmpI (p : Int → Int → Bool) : Op2 := fun x y S => match x, y with
  | .int i, .int j => some (.bl (p i j), S)
  | _, _ => none
abbrev oLt : Op2 := oCmp (fun i j => decide (i < j)) HT.lexLt
abbrev oLe : Op2 := oCmpI fun i j => decide (i ≤ j)
abbrev oGt : Op2 := oCmpI fun i j => decide (j < i)
abbrev oGe : Op2 := oCmpI fun i j => decide (j ≤ i)
def isNon : D → Bool
  | .non => true
  | _ => false
def oIs : Op2 := fun x y S => match y with
  | .non => some (.bl (isNon x), S)
  | .bl b => match x with
    | .bl a => some (.bl (a == b), S)
    | _ => none
  | _ => none
def oIsN : Op2 := fun x y S => match y with
  | .non => some (.bl (!isNon x), S)
  | .bl b => match x with
    | .bl a => some (.bl (!(a == b)), S)
    | _ => none
  | _ => none
section
variable {X : Cx}
abbrev rEqR (K : PySem.W.Frag) : R2 := fun x y H Q => rEq x y H Q ∨ rEqD K x y H Q
abbrev rNeR (K : PySem.W.Frag) : R2 := fun x y H Q => rNe x y H Q ∨ rNeD K x y H Q
theorem opr_eq {k : Nat} (hr : Room k X.A) : OpR X (compareOp .Eq) (rEqR X.K) := op_eq.or (op_eqD hr.units)
theorem opr_ne {k : Nat} (hr : Room k X.A) : OpR X (compareOp .NotEq) (rNeR X.K) := op_ne.or (op_neD hr.units)
theorem eqB_ok {G : Pg} {B L ρ : List Addr} {S : Sto} {H : Hp} {d1 d2 : D} {x y : V} {b : Bool} (R : RH G B L ρ H S) (r1 : RV G.K B ρ H d1 x) (r2 : RV G.K B ρ H d2 y) (e : eqB d1 d2 S = some b) :
    (scal x y = true ∧ decide (x = y) = b) ∨ ∃ p q, Dp G.K H x p ∧ Dp G.K H y q ∧ SeqAt.shaped p = true ∧ SeqAt.shaped q = true ∧ PyData.eqv p q = b := by
  have gen : (match D.py (deref S d1), D.py (deref S d2) with
    | some p, some q => bif SeqAt.shaped p && SeqAt.shaped q then some (PyData.eqv p q) else none
    | _, _ => none) = some b → ∃ p q, Dp G.K H x p ∧ Dp G.K H y q ∧ SeqAt.shaped p = true ∧ SeqAt.shaped q = true ∧ PyData.eqv p q = b := by
    intro e
    cases e1 : D.py (deref S d1) with
    | none => rw [e1] at e; cases e
    | some p =>
      cases e2 : D.py (deref S d2) with
      | none => rw [e1, e2] at e; cases e
      | some q =>
        rw [e1, e2] at e
        simp only at e
        cases hf : (SeqAt.shaped p && SeqAt.shaped q) with
        | false => rw [hf] at e; cases e
        | true =>
          rw [hf] at e
          cases e
          rw [Bool.and_eq_true] at hf
          exact ⟨p, q, deref_ok R r1 e1, deref_ok R r2 e2, hf.1, hf.2, rfl⟩
  cases r1 with
  | int i =>
    cases r2 with
    | int j => cases e; exact .inl ⟨rfl, by simp⟩
    | non => cases e; exact .inl ⟨rfl, by simp⟩
    | _ => exact .inr (gen e)
  | non =>
    cases r2 with
    | int j => cases e; exact .inl ⟨rfl, by simp⟩
    | non => cases e; exact .inl ⟨rfl, by simp⟩
    | _ => exact .inr (gen e)
  | bl a =>
    cases r2 with
    | bl j => cases e; exact .inl ⟨rfl, by rw [dec_bl]⟩
    | _ => exact .inr (gen e)
  | str a =>
    cases r2 with
    | str j => cases e; exact .inl ⟨rfl, decide_eq_decide.mpr ⟨fun z => by cases z; rfl, fun z => by rw [z]⟩⟩
    | _ => exact .inr (gen e)
  | _ => exact .inr (gen e)
theorem ok_eq : Ok2 (pg X) (rEqR X.K) oEq := by
  intro B L ρ S S' H d1 d2 d' x y Q R r1 r2 e q
  unfold oEq at e
  cases h : eqB d1 d2 S with
  | none => rw [h] at e; cases e
  | some b =>
    rw [h] at e; cases e
    rcases eqB_ok R r1 r2 h with ⟨h1, h2⟩ | ⟨p, p', h1, h2, h3, h4, h5⟩
    · exact .inl ⟨h1, by rw [h2]; exact here q R (.bl _)⟩
    · exact .inr ⟨p, p', h1, h2, h3, h4, by rw [h5]; exact here q R (.bl _)⟩
theorem ok_ne : Ok2 (pg X) (rNeR X.K) oNe := by
  intro B L ρ S S' H d1 d2 d' x y Q R r1 r2 e q
  unfold oNe at e
  cases h : eqB d1 d2 S with
  | none => rw [h] at e; cases e
  | some b =>
    rw [h] at e; cases e
    rcases eqB_ok R r1 r2 h with ⟨h1, h2⟩ | ⟨p, p', h1, h2, h3, h4, h5⟩
    · exact .inl ⟨h1, by rw [h2]; exact here q R (.bl _)⟩
    · exact .inr ⟨p, p', h1, h2, h3, h4, by rw [h5]; exact here q R (.bl _)⟩
theorem ok_cmpI {p : Int → Int → Bool} : Ok2 (pg X) (rI0 fun i j => .bl (p i j)) (oCmpI p) := by
  intro B L ρ S S' H d1 d2 d' x y Q R r1 r2 e q
  cases r1 with
  | int i =>
    cases r2 with
    | int j => cases e; exact ⟨i, j, rfl, rfl, here q R (.bl _)⟩
    | _ => cases e
  | _ => cases e
abbrev rLtR (K : PySem.W.Frag) : R2 := fun x y H Q => rI0 (fun i j => .bl (decide (i < j))) x y H Q ∨ rLtT K x y H Q
theorem opr_lt {k : Nat} (hr : Room k X.A) : OpR X (compareOp .Lt) (rLtR X.K) := op_lt.or (op_ltT hr.units0)
theorem ok_lt : Ok2 (pg X) (rLtR X.K) oLt := by
  intro B L ρ S S' H d1 d2 d' x y Q R r1 r2 e q
  cases r1 with
  | int i =>
    cases r2 with
    | int j => cases e; exact .inl ⟨i, j, rfl, rfl, here q R (.bl _)⟩
    | _ => cases e
  | @tup a vs ds h1 h2 =>
    cases r2 with
    | @tup b ws es k1 k2 =>
      unfold oLt oCmp at e
      simp only at e
      cases e1 : intsD ds with
      | none => rw [e1] at e; cases e
      | some ns =>
        cases e2 : intsD es with
        | none => rw [e1, e2] at e; cases e
        | some ms =>
          rw [e1, e2] at e; cases e
          have z1 := intsD_ok h2 e1
          have z2 := intsD_ok k2 e2
          subst z1 z2
          exact .inr ⟨a, b, ns, ms, rfl, rfl, h1.sq, k1.sq, here q R (.bl _)⟩
    | _ => cases e
  | _ => cases e
abbrev rIsR : R2 := fun x y H Q => (y = .non ∧ Q (.bl (decide (x = .non))) H) ∨ rIsB x y H Q
abbrev rIsNR : R2 := fun x y H Q => (y = .non ∧ Q (.bl (!decide (x = .non))) H) ∨ rNotB x y H Q
theorem opr_is : OpR X (compareOp .Is) rIsR := op_isN.or op_isBl
theorem opr_isN : OpR X (compareOp .IsNot) rIsNR := op_notN.or op_notBl
theorem isNon_ok {K : PySem.W.Frag} {B ρ : List Addr} {H : Hp} {d : D} {x : V} (r : RV K B ρ H d x) : decide (x = .non) = isNon d := by
  cases r with
  | glob h => simp [isNon, h]
  | _ => simp [isNon]
theorem ok_is : Ok2 (pg X) rIsR oIs := by
  intro B L ρ S S' H d1 d2 d' x y Q R r1 r2 e q
  cases r2 with
  | non => cases e; exact .inl ⟨rfl, by rw [isNon_ok r1]; exact here q R (.bl _)⟩
  | bl b =>
    cases r1 with
    | bl a =>
      cases e
      refine .inr ⟨a, b, rfl, rfl, ?_⟩
      rw [← Bool.beq_eq_decide_eq]
      exact here q R (.bl _)
    | _ => cases e
  | _ => cases e
theorem ok_isN : Ok2 (pg X) rIsNR oIsN := by
  intro B L ρ S S' H d1 d2 d' x y Q R r1 r2 e q
  cases r2 with
  | non => cases e; exact .inl ⟨rfl, by rw [isNon_ok r1]; exact here q R (.bl _)⟩
  | bl b =>
    cases r1 with
    | bl a =>
      cases e
      refine .inr ⟨a, b, rfl, rfl, ?_⟩
      rw [← Bool.beq_eq_decide_eq]
      exact here q R (.bl _)
    | _ => cases e
  | _ => cases e
end
end Sf
end

section
set_option Elab.async false
set_option maxRecDepth 100000
set_option linter.all false
/-! Sf4: items, slices, built-in functions, methods. -/
namespace Sf
open PySem PySem.Spec PyProof.Rows L2

/-! ### items -/
def ixD (l : List D) (i : Int) : Option D := bif decide (0 ≤ i) then l[i.toNat]? else bif decide (-(l.length : Int) ≤ i) then l[(i + l.length).toNat]? else none
def oIx : Op2 := fun x y S => match y with
  | .int i => match x with
    | .tup l => match ixD l i with
      | some d => some (d, S)
      | none => none
    | x => match lsR x S with
      | some l => match ixD l i with
        | some d => some (d, S)
        | none => none
      | none => none
  | _ => none
section
variable {X : Cx} {G : Pg} {B L ρ : List Addr} {S S' : Sto} {H : Hp} {d d' : D} {x : V} {l : List D} {vs : List V} {Q : VK}
theorem ixD_ok {i : Int} (r : RVs G.K B ρ H l vs) (e : ixD l i = some d) : ∃ v, atI vs i = some v ∧ RV G.K B ρ H d v := by
  unfold ixD at e
  unfold atI ixN
  rw [← r.length]
  by_cases h0 : 0 ≤ i
  · rw [decide_eq_true h0] at e
    obtain ⟨v, e1, r1⟩ := r.get (show l[i.toNat]? = some d from e)
    have hlt : i.toNat < l.length := (List.getElem?_eq_some_iff.mp (show l[i.toNat]? = some d from e)).1
    refine ⟨v, ?_, r1⟩
    rw [if_pos h0, if_pos (by omega)]
    exact e1
  · rw [decide_eq_false h0] at e
    by_cases h1 : -(l.length : Int) ≤ i
    · rw [decide_eq_true h1] at e
      obtain ⟨v, e1, r1⟩ := r.get (show l[(i + l.length).toNat]? = some d from e)
      refine ⟨v, ?_, r1⟩
      rw [if_neg h0, if_pos h1]
      exact e1
    · rw [decide_eq_false h1] at e; cases e
abbrev rIxR (K : PySem.W.Frag) : R2 := fun x y H Q => rIxL K x y H Q ∨ rIxT K x y H Q
theorem ixr : IxR X (rIxR X.K) := ix_list.or ix_tup
theorem ok_ix : Ok2 (pg X) (rIxR X.K) oIx := by
  intro B L ρ S S' H d1 d2 d' x y Q R r1 r2 e q
  cases r2 with
  | int i =>
    have gen : (match lsR d1 S with
      | some l => match ixD l i with
        | some d => some (d, S)
        | none => none
      | none => none) = some (d', S') → rIxR X.K x (.int i) H Q := by
      intro e
      cases e1 : lsR d1 S with
      | none => rw [e1] at e; cases e
      | some l =>
        rw [e1] at e
        simp only at e
        cases e2 : ixD l i with
        | none => rw [e2] at e; cases e
        | some d =>
          rw [e2] at e; cases e
          obtain ⟨a, vs, rfl, h1, h2⟩ := lsR_ok R r1 e1
          obtain ⟨v, e3, r3⟩ := ixD_ok (G := pg X) h2 e2
          exact .inl ⟨a, vs, i, v, rfl, rfl, h1, e3, here q R r3⟩
    cases r1 with
    | @tup a vs ds h1 h2 =>
      unfold oIx at e
      simp only at e
      cases e2 : ixD ds i with
      | none => rw [e2] at e; cases e
      | some d =>
        rw [e2] at e; cases e
        obtain ⟨v, e3, r3⟩ := ixD_ok (G := pg X) h2 e2
        exact .inr ⟨a, vs, i, v, rfl, rfl, h1.sq, e3, here q R r3⟩
    | _ => exact gen e
  | _ => cases e
/-- the same by a bare getItem, of a list -/
theorem pget_list : PGet X (rIxL X.K) := by
  intro pins s σ H o i ov iv Q I ro ri h
  obtain ⟨p, xs, k, z, rfl, rfl, hq, he, q⟩ := h
  cases ro
  obtain ⟨t, rfl⟩ := ri
  obtain ⟨its, r, pl, hz⟩ := I.list hq
  obtain ⟨j, h1, h2, h3, h4, h5⟩ := atI_get he
  obtain ⟨w, ew, rw'⟩ := r.get h2
  have hl := r.length
  have hn := line63
  have fin : EP X pins σ Q w s := ⟨z, H, I, rw', q⟩
  by_cases h0 : 0 ≤ k
  · have hj : k.toNat = j := by
      rw [seqIndex_of h0 h5] at h1
      exact Option.some.inj h1
    exact wpAny_getItem_list (x := w) pl.isList h0 (by omega) (by rw [hj]; simpa using ew) fin
  · have hj : (k + (its.toArray.size : Int)).toNat = j := by
      rw [seqIndex_neg (by omega) h4] at h1
      rw [List.size_toArray, ← hl]
      exact Option.some.inj h1
    exact wpAny_getItem_list_neg pl.isList (by omega) (by rw [List.size_toArray] <;> omega) (by omega) (by rw [hj]; simpa using ew) fin
end

/-! ### slices -/
def cutD (l : List D) (lo hi : Option Int) : List D := (l.drop (HT.sIx l.length 0 lo)).take (HT.sIx l.length l.length hi - HT.sIx l.length 0 lo)
theorem cutD_ok {K : PySem.W.Frag} {B ρ : List Addr} {H : Hp} {l : List D} {vs : List V} (r : RVs K B ρ H l vs) (lo hi : Option Int) : RVs K B ρ H (cutD l lo hi) (cutV vs lo hi) := by
  unfold cutD cutV
  rw [← r.length]
  exact (r.drop _).take _
abbrev FO := En → Sto → Out (Option Int)
def fNoPart : FO := fun _ S => .ok none S
def fPart (f : FE) : FO := fun env S => (f env S).bind fun x S1 => match x with
  | .int i => .ok (some i) S1
  | _ => .bad
abbrev rO : List Addr → Hp → Option Int → Option Int → Prop := fun _ _ a b => a = b
def tO (G : Pg) (W : WX) (xm : XM) (f : FO) : TO := fun σ H Q => ∃ B L ρ S env, At G B L ρ S env σ H ∧ GO G W xm B L ρ H σ rO (f env S) Q
theorem PO.imp {X : Cx} {e : Option Expr} {t t' : TO} (h : PO X e t) (i : ∀ σ H Q, t' σ H Q → t σ H Q) : PO X e t' := ⟨fun pins s σ H Q I q => h.run pins s σ H Q I (i σ H Q q)⟩
abbrev SO' (X : Cx) (w : Wx) (e : Option Expr) (f : FO) : Prop := PO X e (tO (pg X) w.W w.xm f)
section
variable {X : Cx} {w : Wx} {e : Expr} {fe : FE}
theorem so_none : SO' X w none fNoPart := PO.imp po_none fun σ H Q ⟨B, L, ρ, S, env, A, g⟩ => GO.ok0 g A rfl
theorem so_some (h : SE X w e fe) : SO' X w (some e) (fPart fe) := PO.imp (po_some h) fun σ H Q ⟨B, L, ρ, S, env, A, gg⟩ =>
  tE_mono (tE_bind (rel := fun _ => rO) A gg) fun x H1 ⟨B, L, ρ, S, d, A, r, g⟩ => by
    cases r with
    | int i => exact ⟨i, rfl, GO.ok0 g A rfl⟩
    | _ => exact g.elim
end
def wholeB (n : Nat) (lo hi : Option Int) : Bool := Nat.beq (HT.sIx n 0 lo) 0 && Nat.beq (HT.sIx n n hi) n
def oCut (m : Bool) (x : D) (lo hi : Option Int) (S : Sto) : Option (D × Sto) := match x with
  | .tup l => some (.tup (cutD l lo hi), S)
  | x => match lsR x S with
    | some l => mkL m (cutD l lo hi) S
    | none => none
def fCut (m : Bool) (a : FE) (lo hi : FO) : FE := fun env S => (a env S).bind fun x S1 => (lo env S1).bind fun l S2 => (hi env S2).bind fun u S3 => outO (oCut m x l u S3)
section
variable {X : Cx} {w : Wx} {e : Expr} {lo hi : Option Expr} {fe : FE} {fl fh : FO} {p2 pos : Pos}
theorem cutD_whole {l : List D} {lo hi : Option Int} (h : HT.sIx l.length 0 lo = 0 ∧ HT.sIx l.length l.length hi = l.length) : cutD l lo hi = l := by
  unfold cutD; rw [h.1, h.2]; simp
theorem se_cut {m : Bool} (he : SE X w e fe) (hl : SO' X w lo fl) (hh : SO' X w hi fh) : SE X w (.Subscript e (.Slice lo hi none p2) pos) (fCut m fe fl fh) := by
  refine PE.imp (pe_slice (sl_tupA.or sl_list) he hl hh) fun σ H Q ⟨B, L, ρ, S, env, A, gg⟩ => ?_
  refine ⟨B, L, ρ, S, env, A, ?_⟩
  revert gg
  unfold fCut
  cases fe env S with
  | ok d S' =>
    intro g v ρ' H' p R r
    have g' := GO.step g p
    refine ⟨B, L, ρ', S', env, A.step p R, ?_⟩
    revert g'
    show GO (pg X) w.W w.xm B L ρ' H' σ (rD (pg X) B) ((fl env S').bind fun l S2 => (fh env S2).bind fun u S3 => outO (oCut m d l u S3)) Q → _
    cases fl env S' with
    | ok d' S2 =>
      intro g' v2 ρ2 H2 p2 R2 r2
      have g2 := GO.step g' p2
      cases r2
      refine ⟨B, L, ρ2, S2, env, (A.step p R).step p2 R2, ?_⟩
      revert g2
      show GO (pg X) w.W w.xm B L ρ2 H2 σ (rD (pg X) B) ((fh env S2).bind fun u S3 => outO (oCut m d d' u S3)) Q → _
      cases fh env S2 with
      | ok u S3 =>
        intro g2 v3 ρ3 H3 p3 R3 r3
        have g3 := GO.step g2 p3
        cases r3
        obtain ⟨d'', S'', e, q⟩ := GO.outO g3
        have r' : RV X.K B ρ3 H3 d v := (r.mono p2).mono p3
        have gen : (match lsR d S3 with
          | some l => mkL m (cutD l d' u) S3
          | none => none) = some (d'', S'') → rSlA X.K v d' u H3 Q ∨ rSlL X.K v d' u H3 Q := by
          intro e
          cases e1 : lsR d S3 with
          | none => rw [e1] at e; cases e
          | some l =>
            rw [e1] at e
            obtain ⟨a, vs, rfl, h1, h2⟩ := lsR_ok (G := pg X) R3 r' e1
            exact .inr ⟨a, vs, rfl, h1, (mkL_ok R3 (cutD_ok h2 d' u) e q).2⟩
        cases r' with
        | @tup a vs ds h1 h2 =>
          cases e
          refine .inl ⟨a, vs, rfl, h1.sq, fun z => ?_, fun _ => mkT_ok R3 (cutD_ok h2 _ _) q⟩
          rw [← h2.length] at z
          rw [cutD_whole z] at q
          exact here (G := pg X) q R3 (.tup h1 h2)
        | _ => exact gen e
      | exc c S' => exact fun g => g
      | bad => exact fun g => g
    | exc c S' => exact fun g => g
    | bad => exact fun g => g
  | exc c S' => exact fun g => g
  | bad => exact fun g => g
/-- xs[::-1] of a list -/
def oRev (m : Bool) : Op1 := fun x S => match lsR x S with
  | some l => mkL m l.reverse S
  | none => none
theorem se_rev {m : Bool} {k : Nat} {p1 p2 p3 : Pos} (he : SE X w e fe) : SE X w (.Subscript e (.Slice none none (some (.UnaryOp .USub (.Constant (.int 1) k p1) p2)) p3) pos) (fOp1 (oRev m) fe) :=
  PE.imp (pe_revL he) fun σ H Q ⟨B, L, ρ, S, env, A, gg⟩ => go_op1 (X := X) (r := fun x H1 Q => ∃ a xs, x = .ref a ∧ SqL X.K H1 a xs ∧ ∀ p, H1 p = none → Q (.ref p) (upd H1 p (.lst xs.reverse))) (fun B L ρ S S' H d d' x Q R r e q => by
    unfold oRev at e
    cases e1 : lsR d S with
    | none => rw [e1] at e; cases e
    | some l =>
      rw [e1] at e
      obtain ⟨a, vs, rfl, h1, h2⟩ := lsR_ok (G := pg X) R r e1
      exact ⟨a, vs, rfl, h1, (mkL_ok R h2.reverse e q).2⟩) A gg
end

/-! ### built-in functions -/
def oLen : OpN := fun xs S => match xs with
  | [.tup l] => some (.int l.length, S)
  | [.str x] => bif fit x.length then some (.int x.length, S) else none
  | [x] => match lsR x S with
    | some l => some (.int l.length, S)
    | none => none
  | _ => none
def oAbs : OpN := fun xs S => match xs with
  | [.int i] => some (.int (if i < 0 then -i else i), S)
  | _ => none
def oMax2 : OpN := fun xs S => match xs with
  | [.int i, .int j] => some (.int (if j > i then j else i), S)
  | _ => none
def oMax : OpN := fun xs S => match xs with
  | [.tup l] => match intsD l with
    | some (n :: ns) => some (.int (ns.foldl max n), S)
    | _ => none
  | [x] => match lsR x S with
    | some l => match intsD l with
      | some (n :: ns) => some (.int (ns.foldl max n), S)
      | _ => none
    | none => none
  | _ => none
def oMin2 : OpN := fun xs S => match xs with
  | [.int i, .int j] => some (.int (if j < i then j else i), S)
  | _ => none
def oMin : OpN := fun xs S => match xs with
  | [.tup l] => match intsD l with
    | some (n :: ns) => some (.int (ns.foldl min n), S)
    | _ => none
  | [x] => match lsR x S with
    | some l => match intsD l with
      | some (n :: ns) => some (.int (ns.foldl min n), S)
      | _ => none
    | none => none
  | _ => none
def oSum : OpN := fun xs S => match xs with
  | [.tup l] => match intsD l with
    | some ns => some (.int ns.sum, S)
    | _ => none
  | [x] => match lsR x S with
    | some l => match intsD l with
      | some ns => some (.int ns.sum, S)
      | _ => none
    | none => none
  | _ => none
def oAll : OpN := fun xs S => match xs with
  | [x] => match lsR x S with
    | some l => match blsD l with
      | some bs => some (.bl (bs.all id), S)
      | none => none
    | none => none
  | _ => none
def oAny : OpN := fun xs S => match xs with
  | [x] => match lsR x S with
    | some l => match blsD l with
      | some bs => some (.bl (bs.any id), S)
      | none => none
    | none => none
  | _ => none
def oList (m : Bool) : OpN := fun xs S => match xs with
  | [.tup l] => mkL m l S
  | [x] => match lsR x S with
    | some l => mkL m l S
    | none => none
  | _ => none
def oTuple : OpN := fun xs S => match xs with
  | [.tup l] => some (.tup l, S)
  | [x] => match lsR x S with
    | some l => some (.tup l, S)
    | none => none
  | _ => none
/-- a value's type among the built-in ones -/
def tyD (S : Sto) : D → Option String
  | .non => some "NoneType"
  | .bl _ => some "bool"
  | .int _ => some "int"
  | .str _ => some "str"
  | .tup _ => some "tuple"
  | .lst _ => some "list"
  | .loc n => match S[n]? with
    | some (.lst _) => some "list"
    | some (.dki false _) => some "dict"
    | _ => none
  | _ => none
def isaB (a b : String) : Option Bool := match a, b with
  | "bool", "int" => some true
  | "bool", "bool" => some true
  | "int", "int" => some true
  | "str", "str" => some true
  | "tuple", "tuple" => some true
  | "list", "list" => some true
  | "NoneType", "int" => some false | "NoneType", "bool" => some false | "NoneType", "tuple" => some false | "NoneType", "list" => some false | "NoneType", "str" => some false
  | "bool", "tuple" => some false | "bool", "list" => some false | "bool", "str" => some false
  | "int", "bool" => some false | "int", "tuple" => some false | "int", "list" => some false | "int", "str" => some false
  | "str", "int" => some false | "str", "bool" => some false | "str", "tuple" => some false | "str", "list" => some false
  | "tuple", "int" => some false | "tuple", "bool" => some false | "tuple", "list" => some false | "tuple", "str" => some false
  | "list", "int" => some false | "list", "bool" => some false | "list", "tuple" => some false | "list", "str" => some false
  | "dict", "int" => some false | "dict", "bool" => some false | "dict", "tuple" => some false | "dict", "list" => some false | "dict", "str" => some false
  | _, _ => none
def isaAny (a : String) : List D → Option Bool
  | [.glob (.ty n), .glob (.ty m)] => match isaB a n, isaB a m with
    | some b, some c => some (b || c)
    | _, _ => none
  | _ => none
def oIsa : OpN := fun xs S => match xs with
  | [x, .glob (.ty n)] => match tyD S x with
    | some t => match isaB t n with
      | some b => some (.bl b, S)
      | none => none
    | none => none
  | [x, .tup cs] => match tyD S x with
    | some t => match isaAny t cs with
      | some b => some (.bl b, S)
      | none => none
    | none => none
  | _ => none
theorem isaB_ok {a b : String} {r : Bool} (h : isaB a b = some r) : kitB a b = some r := by
  unfold isaB at h
  split at h <;> first | (cases h; decide +kernel) | cases h
section
variable {X : Cx} {K : PySem.W.Frag} {B L ρ : List Addr} {S S' : Sto} {H : Hp}
theorem rvs1 {d : D} {xs : List V} (r : RVs K B ρ H [d] xs) : ∃ x, xs = [x] ∧ RV K B ρ H d x := by
  cases r with
  | cons r t => cases t; exact ⟨_, rfl, r⟩
theorem rvs2 {d d' : D} {xs : List V} (r : RVs K B ρ H [d, d'] xs) : ∃ x y, xs = [x, y] ∧ RV K B ρ H d x ∧ RV K B ρ H d' y := by
  cases r with
  | cons r t =>
    cases t with
    | cons r' t => cases t; exact ⟨_, _, rfl, r, r'⟩
theorem lsR_seq {G : Pg} {d : D} {x : V} {l : List D} (R : RH G B L ρ H S) (r : RV G.K B ρ H d x) (e : lsR d S = some l) : ∃ a vs, x = .ref a ∧ SqL G.K H a vs ∧ RVs G.K B ρ H l vs := lsR_ok R r e
theorem ok_len : OkN (pg X) (fun xs H Q => ∃ x n, xs = [x] ∧ LenV X.K x H n ∧ Q (.int n) H) oLen := by
  intro B L ρ S S' H ds d' xs Q R rs e q
  match ds, e with
  | [d], e =>
    obtain ⟨x, rfl, r⟩ := rvs1 rs
    have gen : (match lsR d S with
      | some l => some (D.int l.length, S)
      | none => none) = some (d', S') → ∃ x' n, [x] = [x'] ∧ LenV X.K x' H n ∧ Q (.int n) H := by
      intro e
      cases e1 : lsR d S with
      | none => rw [e1] at e; cases e
      | some l =>
        rw [e1] at e; cases e
        obtain ⟨a, vs, rfl, h1, h2⟩ := lsR_ok (G := pg X) R r e1
        exact ⟨_, vs.length, rfl, .inl ⟨vs, h1, rfl⟩, by rw [← h2.length]; exact here (G := pg X) q R (.int _)⟩
    cases r with
    | @tup a vs ds h1 h2 => cases e; exact ⟨_, vs.length, rfl, .inr ⟨vs, h1.sq, rfl⟩, by rw [← h2.length]; exact here (G := pg X) q R (.int _)⟩
    | str y =>
      unfold oLen at e
      simp only at e
      cases hf : fit y.length with
      | false => rw [hf] at e; cases e
      | true => rw [hf] at e; cases e; exact ⟨_, y.length, rfl, ⟨fit_le hf, rfl⟩, here (G := pg X) q R (.int _)⟩
    | _ => exact gen e
  | d :: _ :: _, e => cases d <;> cases e
theorem ok_abs : OkN (pg X) (fun xs H Q => ∃ i, xs = [.int i] ∧ Q (.int (if i < 0 then -i else i)) H) oAbs := by
  intro B L ρ S S' H ds d' xs Q R rs e q
  match ds, e with
  | [.int i], e =>
    obtain ⟨x, rfl, r⟩ := rvs1 rs
    cases r; cases e
    exact ⟨i, rfl, here (G := pg X) q R (.int _)⟩
theorem ok_all : OkN (pg X) (rAll X.K) oAll := by
  intro B L ρ S S' H ds d' xs Q R rs e q
  match ds, e with
  | [d], e =>
    obtain ⟨x, rfl, r⟩ := rvs1 rs
    unfold oAll at e
    simp only at e
    cases e1 : lsR d S with
    | none => rw [e1] at e; cases e
    | some l =>
      rw [e1] at e
      simp only at e
      cases e2 : blsD l with
      | none => rw [e2] at e; cases e
      | some bs =>
        rw [e2] at e; cases e
        obtain ⟨a, vs, rfl, h1, h2⟩ := lsR_ok (G := pg X) R r e1
        obtain rfl := blsD_ok (G := pg X) h2 e2
        exact ⟨a, bs, rfl, h1, here (G := pg X) q R (.bl _)⟩
theorem ok_any : OkN (pg X) (rAny X.K) oAny := by
  intro B L ρ S S' H ds d' xs Q R rs e q
  match ds, e with
  | [d], e =>
    obtain ⟨x, rfl, r⟩ := rvs1 rs
    unfold oAny at e
    simp only at e
    cases e1 : lsR d S with
    | none => rw [e1] at e; cases e
    | some l =>
      rw [e1] at e
      simp only at e
      cases e2 : blsD l with
      | none => rw [e2] at e; cases e
      | some bs =>
        rw [e2] at e; cases e
        obtain ⟨a, vs, rfl, h1, h2⟩ := lsR_ok (G := pg X) R r e1
        obtain rfl := blsD_ok (G := pg X) h2 e2
        exact ⟨a, bs, rfl, h1, here (G := pg X) q R (.bl _)⟩
theorem ok_list {m : Bool} : OkN (pg X) (fun xs H Q => ∃ p ys, xs = [.ref p] ∧ (SqL X.K H p ys ∨ SqT X.K H p ys) ∧ ∀ l, H l = none → Q (.ref l) (upd H l (.lst ys))) (oList m) := by
  intro B L ρ S S' H ds d' xs Q R rs e q
  match ds, e with
  | [d], e =>
    obtain ⟨x, rfl, r⟩ := rvs1 rs
    have gen : (match lsR d S with
      | some l => mkL m l S
      | none => none) = some (d', S') → ∃ p ys, [x] = [.ref p] ∧ (SqL X.K H p ys ∨ SqT X.K H p ys) ∧ ∀ l, H l = none → Q (.ref l) (upd H l (.lst ys)) := by
      intro e
      cases e1 : lsR d S with
      | none => rw [e1] at e; cases e
      | some l =>
        rw [e1] at e
        obtain ⟨a, vs, rfl, h1, h2⟩ := lsR_ok (G := pg X) R r e1
        exact ⟨a, vs, rfl, .inl h1, (mkL_ok R h2 e q).2⟩
    cases r with
    | @tup a vs ds h1 h2 => exact ⟨a, vs, rfl, .inr h1.sq, (mkL_ok R h2 e q).2⟩
    | _ => exact gen e
  | d :: _ :: _, e => cases d <;> cases e
theorem ok_tuple : OkN (pg X) (fun xs H Q => ∃ p ys, xs = [.ref p] ∧ ((SqL X.K H p ys ∧ ∀ l, H l = none → Q (.ref l) (upd H l (.tup ys))) ∨ (SqT X.K H p ys ∧ Q (.ref p) H))) oTuple := by
  intro B L ρ S S' H ds d' xs Q R rs e q
  match ds, e with
  | [d], e =>
    obtain ⟨x, rfl, r⟩ := rvs1 rs
    have gen : (match lsR d S with
      | some l => some (D.tup l, S)
      | none => none) = some (d', S') → ∃ p ys, [x] = [.ref p] ∧ ((SqL X.K H p ys ∧ ∀ l, H l = none → Q (.ref l) (upd H l (.tup ys))) ∨ (SqT X.K H p ys ∧ Q (.ref p) H)) := by
      intro e
      cases e1 : lsR d S with
      | none => rw [e1] at e; cases e
      | some l =>
        rw [e1] at e; cases e
        obtain ⟨a, vs, rfl, h1, h2⟩ := lsR_ok (G := pg X) R r e1
        exact ⟨a, vs, rfl, .inl ⟨h1, mkT_ok R h2 q⟩⟩
    cases r with
    | @tup a vs ds h1 h2 => cases e; exact ⟨a, vs, rfl, .inr ⟨h1.sq, here (G := pg X) q R (.tup h1 h2)⟩⟩
    | _ => exact gen e
  | d :: _ :: _, e => cases d <;> cases e
theorem tyD_ok {G : Pg} {d : D} {x : V} {t : String} (R : RH G B L ρ H S) (r : RV G.K B ρ H d x) (e : tyD S d = some t) : TyX G.K H x (.type t) := by
  cases r with
  | non => cases e; exact .base .non
  | bl b => cases e; exact .base (.bl b)
  | int i => cases e; exact .base (.int i)
  | str y => cases e; exact .base (.str y)
  | tup h1 h2 => cases e; exact .base (.tup h1.2.2)
  | lst h1 h2 h3 h4 => cases e; exact .base (.lst h3)
  | @loc n a h =>
    unfold tyD at e
    simp only at e
    cases q : S[n]? with
    | none => rw [q] at e; cases e
    | some o =>
      rw [q] at e
      cases o with
      | lst ds => cases e; obtain ⟨vs, h1, h2⟩ := R.ob n a _ h q; exact .base (.lst h1)
      | dki lk kvs =>
        cases lk with
        | true => cases e
        | false => cases e; obtain ⟨ents, h1, h2⟩ := R.ob n a _ h q; exact .base (.dK h1)
      | _ => cases e
  | _ => cases e
theorem isaAny_ok {t : String} {cs : List D} {vs : List V} {b : Bool} (r : RVs K B ρ H cs vs) (e : isaAny t cs = some b) : ∃ us, Paired ClsV vs us ∧ PySem.W.kitAny K (.type t) us = some b := by
  match cs, e with
  | [.glob (.ty n), .glob (.ty m)], e =>
    obtain ⟨x, y, rfl, r1, r2⟩ := rvs2 r
    cases r1; cases r2
    unfold isaAny at e
    simp only at e
    cases e1 : isaB t n with
    | none => rw [e1] at e; cases e
    | some b' =>
      cases e2 : isaB t m with
      | none => rw [e1, e2] at e; cases e
      | some c =>
        rw [e1, e2] at e; cases e
        refine ⟨[.type n, .type m], .cons (.ty n) (.cons (.ty m) .nil), ?_⟩
        refine kitAny_cons (kit_ty (isaB_ok e1)) (fun z => ?_) (fun z => by rw [z]; rfl)
        subst z
        refine kitAny_cons (kit_ty (isaB_ok e2)) (fun z => ?_) (fun z => by rw [z]; rfl)
        subst z; rfl
abbrev rIsaR (K : PySem.W.Frag) : List V → Hp → VK → Prop := fun xs H Q => rIsi K xs H Q ∨ rIsiT K xs H Q
theorem callr_isa : CallR X (.builtin "isinstance") (rIsaR X.K) := call_isi.or call_isiT
theorem ok_isa : OkN (pg X) (rIsaR X.K) oIsa := by
  intro B L ρ S S' H ds d' xs Q R rs e q
  match ds, e with
  | [d, .glob (.ty n)], e =>
    obtain ⟨x, y, rfl, r1, r2⟩ := rvs2 rs
    cases r2
    unfold oIsa at e
    simp only at e
    cases e1 : tyD S d with
    | none => rw [e1] at e; cases e
    | some t =>
      rw [e1] at e
      simp only at e
      cases e2 : isaB t n with
      | none => rw [e2] at e; cases e
      | some b =>
        rw [e2] at e; cases e
        exact .inl ⟨x, _, .type t, .type n, b, rfl, .ty n, tyD_ok (G := pg X) R r1 e1, kit_ty (isaB_ok e2), here (G := pg X) q R (.bl _)⟩
  | [d, .tup cs], e =>
    obtain ⟨x, y, rfl, r1, r2⟩ := rvs2 rs
    cases r2 with
    | @tup a vs _ h1 h2 =>
    unfold oIsa at e
    simp only at e
    cases e1 : tyD S d with
    | none => rw [e1] at e; cases e
    | some t =>
      rw [e1] at e
      simp only at e
      cases e2 : isaAny t cs with
      | none => rw [e2] at e; cases e
      | some b =>
        rw [e2] at e; cases e
        obtain ⟨us, k1, k2⟩ := isaAny_ok h2 e2
        exact .inr ⟨x, a, vs, .type t, us, b, rfl, h1.2.2, k1, tyD_ok (G := pg X) R r1 e1, k2, here (G := pg X) q R (.bl _)⟩
/-! ### max, min, sum: two ints; a list, a tuple of ints -/
theorem foldl_max_mem : ∀ (ns : List Int) (n : Int), (ns.foldl max n = n ∨ ns.foldl max n ∈ ns) ∧ n ≤ ns.foldl max n ∧ ∀ y, y ∈ ns → y ≤ ns.foldl max n
  | [], n => ⟨.inl rfl, Int.le_refl _, fun _ h => nomatch h⟩
  | k :: r, n => by
    obtain ⟨h1, h2, h3⟩ := foldl_max_mem r (max n k)
    rw [List.foldl_cons]
    refine ⟨?_, by omega, fun y hy => ?_⟩
    · rcases h1 with h1 | h1
      · rw [h1]
        by_cases z : n ≤ k
        · right; rw [Int.max_eq_right z]; exact List.mem_cons_self
        · left; exact Int.max_eq_left (by omega)
      · exact .inr (List.mem_cons_of_mem _ h1)
    · rcases List.mem_cons.mp hy with rfl | hy
      · omega
      · exact h3 y hy
theorem foldl_min_mem : ∀ (ns : List Int) (n : Int), (ns.foldl min n = n ∨ ns.foldl min n ∈ ns) ∧ ns.foldl min n ≤ n ∧ ∀ y, y ∈ ns → ns.foldl min n ≤ y
  | [], n => ⟨.inl rfl, Int.le_refl _, fun _ h => nomatch h⟩
  | k :: r, n => by
    obtain ⟨h1, h2, h3⟩ := foldl_min_mem r (min n k)
    rw [List.foldl_cons]
    refine ⟨?_, by omega, fun y hy => ?_⟩
    · rcases h1 with h1 | h1
      · rw [h1]
        by_cases z : n ≤ k
        · left; exact Int.min_eq_left z
        · right; rw [Int.min_eq_right (by omega)]; exact List.mem_cons_self
      · exact .inr (List.mem_cons_of_mem _ h1)
    · rcases List.mem_cons.mp hy with rfl | hy
      · omega
      · exact h3 y hy
theorem readsInts {h : Heap} : ∀ {ns : List Int} {us : List Value}, Vals (ns.map V.int) us → ∃ as, ReadsAll h us (ns.map PyData.int) as
  | [], _, .nil => ⟨_, ReadsAll.nil⟩
  | n :: ns, _, .cons r t => by
    obtain ⟨tk, rfl⟩ := r
    obtain ⟨as, q⟩ := readsInts t
    exact ⟨_, ReadsAll.cons (Reads.int n tk) q⟩
theorem alikeInts (ns : List Int) : PySem.W.AlikeAll (ns.map PyData.int) := by
  refine ⟨fun x hx y hy => ?_, fun x hx => ?_⟩
  · obtain ⟨i, _, rfl⟩ := List.mem_map.mp hx
    obtain ⟨j, _, rfl⟩ := List.mem_map.mp hy
    rfl
  · obtain ⟨i, _, rfl⟩ := List.mem_map.mp hx
    exact fun z => nomatch z
theorem depthInts : ∀ ns : List Int, PyData.depthAll (ns.map PyData.int) = 0
  | [] => rfl
  | n :: ns => by rw [List.map_cons, PyData.depthAll, depthInts ns]; rfl
def rTupF (K : PySem.W.Frag) (f : Int → List Int → Int) : List V → Hp → VK → Prop := fun xs H Q => ∃ (a : Addr) (n : Int) (ns : List Int), xs = [.ref a] ∧ SqT K H a ((n :: ns).map V.int) ∧ Q (.int (f n ns)) H
theorem cr_maxT {k : Nat} (hc : X.calm = true) (hr : Room k X.A) : CallR X (.builtin "max") (rTupF X.K fun n ns => ns.foldl max n) := by
  intro pins s σ H vs us Q I r h
  obtain ⟨a, n, ns, rfl, hs, q⟩ := h
  obtain ⟨its, rv, ht, _⟩ := I.tuple hs
  rw [Vals.ref1 r]
  obtain ⟨as, hra⟩ := readsInts (h := s.heap) rv
  have hu := hr.units
  refine PySem.W.max_tuple_data (I.ok.hd hc) (show s.heap.IsTuple a its.toArray from ht) (x := .int n) (xs := ns.map .int) (as := as) (by simpa using hra) (by simpa using alikeInts (n :: ns)) (by rw [show (PyData.int n :: ns.map PyData.int) = (n :: ns).map PyData.int from rfl, depthInts]; omega) fun i v h' tk bs hv hread hk => ?_
  rw [PySem.W.maxD_ints] at hread
  cases hread
  exact ⟨.int _, H, I.kept hk, ⟨_, rfl⟩, q⟩
theorem cr_minT {k : Nat} (hc : X.calm = true) (hr : Room k X.A) : CallR X (.builtin "min") (rTupF X.K fun n ns => ns.foldl min n) := by
  intro pins s σ H vs us Q I r h
  obtain ⟨a, n, ns, rfl, hs, q⟩ := h
  obtain ⟨its, rv, ht, _⟩ := I.tuple hs
  rw [Vals.ref1 r]
  obtain ⟨as, hra⟩ := readsInts (h := s.heap) rv
  have hu := hr.units
  refine PySem.W.min_tuple_data (I.ok.hd hc) (show s.heap.IsTuple a its.toArray from ht) (x := .int n) (xs := ns.map .int) (as := as) (by simpa using hra) (by simpa using alikeInts (n :: ns)) (by rw [show (PyData.int n :: ns.map PyData.int) = (n :: ns).map PyData.int from rfl, depthInts]; omega) fun i v h' tk bs hv hread hk => ?_
  rw [PySem.W.minD_ints] at hread
  cases hread
  exact ⟨.int _, H, I.kept hk, ⟨_, rfl⟩, q⟩
def rSumT (K : PySem.W.Frag) : List V → Hp → VK → Prop := fun xs H Q => ∃ (a : Addr) (ns : List Int), xs = [.ref a] ∧ SqT K H a (ns.map V.int) ∧ Q (.int ns.sum) H
theorem cr_sumT (hc : X.calm = true) : CallR X (.builtin "sum") (rSumT X.K) := by
  intro pins s σ H vs us Q I r h
  obtain ⟨a, ns, rfl, hs, q⟩ := h
  obtain ⟨its, rv, ht, _⟩ := I.tuple hs
  rw [Vals.ref1 r]
  have hi := rv.ints
  obtain ⟨xs, hx⟩ := hi.allInts.items
  have hl : s.heap.IsTuple a its.toArray := ht
  have hn : numsOf its.toArray.toList = ns := by rw [show its.toArray.toList = its from rfl, hi.numsOf]
  rw [hx] at hl hn
  rw [nums_intItems] at hn
  refine PySem.W.ktm_sumG (I.ok.hd hc) hl fun h' tk t' hk => ?_
  rw [preSum_eq, List.take_of_length_le (by simp), hn]
  exact ⟨.int _, H, I.kept hk, ⟨_, rfl⟩, q⟩
abbrev rMaxR (K : PySem.W.Frag) : List V → Hp → VK → Prop := fun xs H Q => rMax K xs H Q ∨ rTupF K (fun n ns => ns.foldl max n) xs H Q
abbrev rMinR (K : PySem.W.Frag) : List V → Hp → VK → Prop := fun xs H Q => rMin K xs H Q ∨ rTupF K (fun n ns => ns.foldl min n) xs H Q
abbrev rSumR (K : PySem.W.Frag) : List V → Hp → VK → Prop := fun xs H Q => rSum K xs H Q ∨ rSumT K xs H Q
theorem callr_max {k : Nat} (hc : X.calm = true) (hr : Room k X.A) : CallR X (.builtin "max") (rMaxR X.K) := (cr_max hc).or (cr_maxT hc hr)
theorem callr_min {k : Nat} (hc : X.calm = true) (hr : Room k X.A) : CallR X (.builtin "min") (rMinR X.K) := (cr_min hc).or (cr_minT hc hr)
theorem callr_sum (hc : X.calm = true) : CallR X (.builtin "sum") (rSumR X.K) := (cr_sum hc).or (cr_sumT hc)
theorem ok_max : OkN (pg X) (rMaxR X.K) oMax := by
  intro B L ρ S S' H ds d' xs Q R rs e q
  match ds, e with
  | [d], e =>
    obtain ⟨x, rfl, r⟩ := rvs1 rs
    have gen : (match lsR d S with
      | some l => match intsD l with
        | some (n :: ns) => some (D.int (ns.foldl max n), S)
        | _ => none
      | none => none) = some (d', S') → rMaxR X.K [x] H Q := by
      intro e
      cases e1 : lsR d S with
      | none => rw [e1] at e; cases e
      | some l =>
        rw [e1] at e
        simp only at e
        cases e2 : intsD l with
        | none => rw [e2] at e; cases e
        | some ns =>
          rw [e2] at e
          cases ns with
          | nil => cases e
          | cons n ns =>
            cases e
            obtain ⟨a, vs, rfl, h1, h2⟩ := lsR_ok (G := pg X) R r e1
            obtain rfl := intsD_ok (G := pg X) h2 e2
            refine .inl ⟨a, n :: ns, rfl, h1, by simp, fun m hm hle => ?_⟩
            obtain ⟨z1, z2, z3⟩ := foldl_max_mem ns n
            have : m = ns.foldl max n := by
              have a1 : m ≤ ns.foldl max n := by
                rcases List.mem_cons.mp hm with rfl | hm
                · exact z2
                · exact z3 m hm
              have a2 : ns.foldl max n ≤ m := by
                rcases z1 with z1 | z1
                · rw [z1]; exact hle n List.mem_cons_self
                · exact hle _ (List.mem_cons_of_mem _ z1)
              omega
            rw [this]
            exact here (G := pg X) q R (.int _)
    cases r with
    | @tup a vs ds h1 h2 =>
      unfold oMax at e
      simp only at e
      cases e2 : intsD ds with
      | none => rw [e2] at e; cases e
      | some ns =>
        rw [e2] at e
        cases ns with
        | nil => cases e
        | cons n ns =>
          cases e
          obtain rfl := intsD_ok (G := pg X) h2 e2
          exact .inr ⟨a, n, ns, rfl, h1.sq, here (G := pg X) q R (.int _)⟩
    | _ => exact gen e
  | d :: _ :: _, e => cases d <;> cases e
theorem ok_min : OkN (pg X) (rMinR X.K) oMin := by
  intro B L ρ S S' H ds d' xs Q R rs e q
  match ds, e with
  | [d], e =>
    obtain ⟨x, rfl, r⟩ := rvs1 rs
    have gen : (match lsR d S with
      | some l => match intsD l with
        | some (n :: ns) => some (D.int (ns.foldl min n), S)
        | _ => none
      | none => none) = some (d', S') → rMinR X.K [x] H Q := by
      intro e
      cases e1 : lsR d S with
      | none => rw [e1] at e; cases e
      | some l =>
        rw [e1] at e
        simp only at e
        cases e2 : intsD l with
        | none => rw [e2] at e; cases e
        | some ns =>
          rw [e2] at e
          cases ns with
          | nil => cases e
          | cons n ns =>
            cases e
            obtain ⟨a, vs, rfl, h1, h2⟩ := lsR_ok (G := pg X) R r e1
            obtain rfl := intsD_ok (G := pg X) h2 e2
            refine .inl ⟨a, n :: ns, rfl, h1, by simp, fun m hm hle => ?_⟩
            obtain ⟨z1, z2, z3⟩ := foldl_min_mem ns n
            have : m = ns.foldl min n := by
              have a1 : ns.foldl min n ≤ m := by
                rcases List.mem_cons.mp hm with rfl | hm
                · exact z2
                · exact z3 m hm
              have a2 : m ≤ ns.foldl min n := by
                rcases z1 with z1 | z1
                · rw [z1]; exact hle n List.mem_cons_self
                · exact hle _ (List.mem_cons_of_mem _ z1)
              omega
            rw [this]
            exact here (G := pg X) q R (.int _)
    cases r with
    | @tup a vs ds h1 h2 =>
      unfold oMin at e
      simp only at e
      cases e2 : intsD ds with
      | none => rw [e2] at e; cases e
      | some ns =>
        rw [e2] at e
        cases ns with
        | nil => cases e
        | cons n ns =>
          cases e
          obtain rfl := intsD_ok (G := pg X) h2 e2
          exact .inr ⟨a, n, ns, rfl, h1.sq, here (G := pg X) q R (.int _)⟩
    | _ => exact gen e
  | d :: _ :: _, e => cases d <;> cases e
theorem ok_max2 : OkN (pg X) (fun xs H Q => ∃ i j, xs = [.int i, .int j] ∧ Q (.int (if j > i then j else i)) H) oMax2 := by
  intro B L ρ S S' H ds d' xs Q R rs e q
  match ds, e with
  | [.int i, .int j], e =>
    obtain ⟨x, y, rfl, r1, r2⟩ := rvs2 rs
    cases r1; cases r2; cases e
    exact ⟨i, j, rfl, here (G := pg X) q R (.int _)⟩
theorem ok_min2 : OkN (pg X) (fun xs H Q => ∃ i j, xs = [.int i, .int j] ∧ Q (.int (if j < i then j else i)) H) oMin2 := by
  intro B L ρ S S' H ds d' xs Q R rs e q
  match ds, e with
  | [.int i, .int j], e =>
    obtain ⟨x, y, rfl, r1, r2⟩ := rvs2 rs
    cases r1; cases r2; cases e
    exact ⟨i, j, rfl, here (G := pg X) q R (.int _)⟩
theorem ok_sum : OkN (pg X) (rSumR X.K) oSum := by
  intro B L ρ S S' H ds d' xs Q R rs e q
  match ds, e with
  | [d], e =>
    obtain ⟨x, rfl, r⟩ := rvs1 rs
    have gen : (match lsR d S with
      | some l => match intsD l with
        | some ns => some (D.int ns.sum, S)
        | _ => none
      | none => none) = some (d', S') → rSumR X.K [x] H Q := by
      intro e
      cases e1 : lsR d S with
      | none => rw [e1] at e; cases e
      | some l =>
        rw [e1] at e
        simp only at e
        cases e2 : intsD l with
        | none => rw [e2] at e; cases e
        | some ns =>
          rw [e2] at e; cases e
          obtain ⟨a, vs, rfl, h1, h2⟩ := lsR_ok (G := pg X) R r e1
          obtain rfl := intsD_ok (G := pg X) h2 e2
          exact .inl ⟨a, ns, rfl, h1, here (G := pg X) q R (.int _)⟩
    cases r with
    | @tup a vs ds h1 h2 =>
      unfold oSum at e
      simp only at e
      cases e2 : intsD ds with
      | none => rw [e2] at e; cases e
      | some ns =>
        rw [e2] at e; cases e
        obtain rfl := intsD_ok (G := pg X) h2 e2
        exact .inr ⟨a, ns, rfl, h1.sq, here (G := pg X) q R (.int _)⟩
    | _ => exact gen e
  | d :: _ :: _, e => cases d <;> cases e
end

/-! ### displays -/
def fTup (fs : FA) : FE := fun env S => (fs env S).bind fun xs S1 => bif fit xs.length then .ok (.tup xs) S1 else .bad
def fLst (m : Bool) (fs : FA) : FE := fun env S => (fs env S).bind fun xs S1 => outO (mkL m xs S1)
section
variable {X : Cx} {w : Wx} {es : List Expr} {fs : FA} {k : Nat} {pos : Pos}
theorem se_tup (h : SA X w es fs) : SE X w (.Tuple es k pos) (fTup fs) := PE.imp (pe_tup h) fun σ H Q ⟨B, L, ρ, S, env, A, gg⟩ =>
  tA_mono (tA_bind (rel := rD (pg X)) A gg) fun x H1 ⟨B, L, ρ, S, d, A, r, g⟩ => by
    cases hf : fit d.length with
    | false => rw [hf] at g; exact g.elim
    | true =>
      rw [hf] at g
      exact ⟨by rw [← r.length]; exact fit_le hf, mkT_ok A.rh r g⟩
theorem se_lst {m : Bool} (h : SA X w es fs) : SE X w (.List es pos) (fLst m fs) := PE.imp (pe_lst h) fun σ H Q ⟨B, L, ρ, S, env, A, gg⟩ =>
  tA_mono (tA_bind (rel := rD (pg X)) A gg) fun x H1 ⟨B, L, ρ, S, d, A, r, g⟩ => by
    obtain ⟨d', S', e, q⟩ := g.outO
    exact mkL_ok A.rh r e q
end
end Sf
end

section
set_option Elab.async false
set_option maxRecDepth 100000
set_option linter.all false
/-! Sf5: statements, loops. -/
namespace Sf
open PySem PySem.Spec PyProof.Rows L2

inductive SR where
  | nx (env : En) (S : Sto)
  | bk (env : En) (S : Sto)
  | ct (env : En) (S : Sto)
  | rt (d : D) (S : Sto)
  | xc (c : Nat) (S : Sto)
  | bad
abbrev FS := En → Sto → SR
def Out.bindS {α : Type} (r : Out α) (k : α → Sto → SR) : SR := match r with
  | .ok a S => k a S
  | .exc c S => .xc c S
  | .bad => .bad
def SR.bindN (r : SR) (k : En → Sto → SR) : SR := match r with
  | .nx env S => k env S
  | r => r
def GS (G : Pg) (W : WX) (xm : XM) (B L ρ : List Addr) (H : Hp) (r : SR) (D : Ends) : Prop :=
  match r with
  | .nx env S' => ∀ σ' ρ' H', Post L ρ H ρ' H' → RH G B L ρ' H' S' → RE G.K B ρ' H' env σ' → D.nx σ' H'
  | .bk env S' => ∀ σ' ρ' H', Post L ρ H ρ' H' → RH G B L ρ' H' S' → RE G.K B ρ' H' env σ' → D.bk σ' H'
  | .ct env S' => ∀ σ' ρ' H', Post L ρ H ρ' H' → RH G B L ρ' H' S' → RE G.K B ρ' H' env σ' → D.ct σ' H'
  | .rt d S' => ∀ v ρ' H', Post L ρ H ρ' H' → RH G B L ρ' H' S' → RV G.K B ρ' H' d v → D.rt v H'
  | .xc c S' => ∀ σ' ρ' H', Post L ρ H ρ' H' → RH G B L ρ' H' S' → W (xm c) none σ' H'
  | .bad => False
def tS (G : Pg) (W : WX) (xm : XM) (f : FS) : TS := fun D σ H => ∃ B L ρ S env, At G B L ρ S env σ H ∧ GS G W xm B L ρ H (f env S) D
abbrev SS (X : Cx) (w : Wx) (st : Stmt) (f : FS) : Prop := PS X st (tS (pg X) w.W w.xm f)
abbrev SSs (X : Cx) (w : Wx) (sts : List Stmt) (f : FS) : Prop := PSs X sts (tS (pg X) w.W w.xm f)
section
variable {G : Pg} {W : WX} {xm : XM} {B L ρ ρ' : List Addr} {H H' : Hp} {σ : L2.St} {r : SR} {D D' : Ends} {S : Sto} {env : En}
theorem GS.step (g : GS G W xm B L ρ H r D) (p : Post L ρ H ρ' H') : GS G W xm B L ρ' H' r D := by
  cases r with
  | nx e S' => exact fun v ρ2 H2 q R x => g v ρ2 H2 (p.trans q) R x
  | bk e S' => exact fun v ρ2 H2 q R x => g v ρ2 H2 (p.trans q) R x
  | ct e S' => exact fun v ρ2 H2 q R x => g v ρ2 H2 (p.trans q) R x
  | rt e S' => exact fun v ρ2 H2 q R x => g v ρ2 H2 (p.trans q) R x
  | xc c S' => exact fun v ρ2 H2 q R => g v ρ2 H2 (p.trans q) R
  | bad => exact g
theorem GS.nx0 {env : En} (g : GS G W xm B L ρ H (.nx env S) D) (R : RH G B L ρ H S) (re : RE G.K B ρ H env σ) : D.nx σ H := g σ ρ H Post.refl R re
theorem tE_bindS {f : FE} {k : Sf.D → Sto → SR} (A : At G B L ρ S env σ H) (g : GS G W xm B L ρ H ((f env S).bindS k) D) :
    tE G W xm f σ H fun x H1 => ∃ B L ρ S d, At G B L ρ S env σ H1 ∧ RV G.K B ρ H1 d x ∧ GS G W xm B L ρ H1 (k d S) D := by
  refine ⟨B, L, ρ, S, env, A, ?_⟩
  revert g
  cases f env S with
  | ok d S' => exact fun g v ρ' H' p R r => ⟨B, L, ρ', S', d, A.step p R, r, GS.step g p⟩
  | exc c S' => exact fun g => g σ
  | bad => exact fun g => g
theorem tT_bindS {f : FT} {k : Bool → Sto → SR} (A : At G B L ρ S env σ H) (g : GS G W xm B L ρ H ((f env S).bindS k) D) :
    tT G W xm f σ H fun x H1 => ∃ B L ρ S, At G B L ρ S env σ H1 ∧ GS G W xm B L ρ H1 (k x S) D := by
  refine ⟨B, L, ρ, S, env, A, ?_⟩
  revert g
  cases f env S with
  | ok d S' => exact fun g v ρ' H' p R r => ⟨B, L, ρ', S', A.step p R, by cases r; exact GS.step g p⟩
  | exc c S' => exact fun g => g σ
  | bad => exact fun g => g
theorem tE_bindS2 {f g : FE} {k : Sf.D → Sf.D → Sto → SR} (A : At G B L ρ S env σ H) (gg : GS G W xm B L ρ H ((f env S).bindS fun x S1 => (g env S1).bindS fun y S2 => k x y S2) D) :
    tE G W xm f σ H fun x H1 => tE G W xm g σ H1 fun y H2 => ∃ B L ρ S d d', At G B L ρ S env σ H2 ∧ RV G.K B ρ H2 d x ∧ RV G.K B ρ H2 d' y ∧ GS G W xm B L ρ H2 (k d d' S) D := by
  refine ⟨B, L, ρ, S, env, A, ?_⟩
  revert gg
  cases f env S with
  | ok d S' =>
    intro gg v ρ' H' p R r
    have g' := GS.step gg p
    refine ⟨B, L, ρ', S', env, A.step p R, ?_⟩
    revert g'
    show GS G W xm B L ρ' H' ((g env S').bindS fun y S2 => k d y S2) D → _
    cases g env S' with
    | ok d' S2 => exact fun g' v2 ρ2 H2 p2 R2 r2 => ⟨B, L, ρ2, S2, d, d', (A.step p R).step p2 R2, r.mono p2, r2, GS.step g' p2⟩
    | exc c S' => exact fun g => g σ
    | bad => exact fun g => g
  | exc c S' => exact fun g => g σ
  | bad => exact fun g => g
theorem tE_bindS3 {f g h : FE} {k : Sf.D → Sf.D → Sf.D → Sto → SR} (A : At G B L ρ S env σ H) (gg : GS G W xm B L ρ H ((f env S).bindS fun x S1 => (g env S1).bindS fun y S2 => (h env S2).bindS fun z S3 => k x y z S3) D) :
    tE G W xm f σ H fun x H1 => tE G W xm g σ H1 fun y H2 => tE G W xm h σ H2 fun z H3 => ∃ B L ρ S d d' d'', At G B L ρ S env σ H3 ∧ RV G.K B ρ H3 d x ∧ RV G.K B ρ H3 d' y ∧ RV G.K B ρ H3 d'' z ∧ GS G W xm B L ρ H3 (k d d' d'' S) D := by
  refine ⟨B, L, ρ, S, env, A, ?_⟩
  revert gg
  cases f env S with
  | ok d S' =>
    intro gg v ρ' H' p R r
    have g' := GS.step gg p
    refine ⟨B, L, ρ', S', env, A.step p R, ?_⟩
    revert g'
    show GS G W xm B L ρ' H' ((g env S').bindS fun y S2 => (h env S2).bindS fun z S3 => k d y z S3) D → _
    cases g env S' with
    | ok d' S2 =>
      intro g' v2 ρ2 H2 p2 R2 r2
      have g2 := GS.step g' p2
      refine ⟨B, L, ρ2, S2, env, (A.step p R).step p2 R2, ?_⟩
      revert g2
      show GS G W xm B L ρ2 H2 ((h env S2).bindS fun z S3 => k d d' z S3) D → _
      cases h env S2 with
      | ok d'' S3 => exact fun g2 v3 ρ3 H3 p3 R3 r3 => ⟨B, L, ρ3, S3, d, d', d'', ((A.step p R).step p2 R2).step p3 R3, (r.mono p2).mono p3, r2.mono p3, r3, GS.step g2 p3⟩
      | exc c S' => exact fun g => g σ
      | bad => exact fun g => g
    | exc c S' => exact fun g => g σ
    | bad => exact fun g => g
  | exc c S' => exact fun g => g σ
  | bad => exact fun g => g
end

/-! ### functions of statements -/
def sSkip : FS := fun env S => .nx env S
def sSeq (f g : FS) : FS := fun env S => (f env S).bindN g
def sBreak : FS := fun env S => .bk env S
def sCont : FS := fun env S => .ct env S
def sExpr (f : FE) : FS := fun env S => (f env S).bindS fun _ S1 => .nx env S1
def sRet (f : FE) : FS := fun env S => (f env S).bindS fun x S1 => .rt x S1
def sIf (c : FT) (a b : FS) : FS := fun env S => (c env S).bindS fun x S1 => bif x then a env S1 else b env S1
def sAsg (i : Nat) (f : FE) : FS := fun env S => (f env S).bindS fun x S1 => .nx (env.set i x) S1
def setAllE : En → List Nat → List D → En
  | env, i :: is, d :: ds => setAllE (env.set i d) is ds
  | env, _, _ => env
def setAllS : L2.St → List Nat → List V → L2.St
  | σ, i :: is, d :: ds => setAllS (σ.set i (some d)) is ds
  | σ, _, _ => σ
def unTup (is : List Nat) (d : D) (env : En) : Option En := match d with
  | .tup l => bif Nat.beq l.length is.length then some (setAllE env is l) else none
  | _ => none
def sAsgT (is : List Nat) (f : FE) : FS := fun env S => (f env S).bindS fun x S1 => match unTup is x env with
  | some env' => .nx env' S1
  | none => .bad
def sAsgP (is : List Nat) (fs : FA) : FS := fun env S => (fs env S).bindS fun xs S1 => .nx (setAllE env is xs) S1
/-- o[i] = v of a list's place -/
def setO (o i v : D) (S : Sto) : Option Sto := match o, i with
  | .loc n, .int k => match S[n]? with
    | some (.lst l) => match ixN l.length k with
      | some j => some (S.set n (.lst (l.set j v)))
      | none => none
    | _ => none
  | _, _ => none
def sAsgIx (fe fo fi : FE) : FS := fun env S => (fe env S).bindS fun x S1 => (fo env S1).bindS fun o S2 => (fi env S2).bindS fun i S3 => match setO o i x S3 with
  | some S4 => .nx env S4
  | none => .bad
def sAug (i : Nat) (g : Op2) (f : FE) : FS := fun env S => (fVar i env S).bindS fun x S1 => (f env S1).bindS fun y S2 => match g x y S2 with
  | some (z, S3) => .nx (env.set i z) S3
  | none => .bad
def sto (env : En) : Option Sto → SR
  | some S => .nx env S
  | none => .bad
def augJ (g : Op2) (env : En) (o i x y : D) (S : Sto) : SR := match g x y S with
  | some (z, S5) => sto env (setO o i z S5)
  | none => .bad
def augK (g : Op2) (fe : FE) (env : En) (o i : D) (S : Sto) : SR := match o, i with
  | .loc n, .int k => match oIx (.loc n) (.int k) S with
    | some (x, S3) => (fe env S3).bindS fun y S4 => augJ g env (.loc n) (.int k) x y S4
    | none => .bad
  | _, _ => .bad
def sAugIx (g : Op2) (fo fi fe : FE) : FS := fun env S => (fo env S).bindS fun o S1 => (fi env S1).bindS fun i S2 => augK g fe env o i S2
def whileL (c : FT) (b : FS) : Nat → FS
  | 0 => fun _ _ => .bad
  | m + 1 => fun env S => (c env S).bindS fun x S1 => bif x then (match b env S1 with
    | .nx env' S' => whileL c b m env' S'
    | .ct env' S' => whileL c b m env' S'
    | .bk env' S' => .nx env' S'
    | r => r) else .nx env S1

section
variable {X : Cx} {w : Wx} {e : Expr} {st : Stmt} {sts rest : List Stmt} {f g : FS} {fe fo fi : FE} {fc : FT} {fs : FA} {pos : Pos}
theorem ss_nil : SSs X w [] sSkip := PSs.imp pss_nil fun D σ H ⟨B, L, ρ, S, env, A, g⟩ => GS.nx0 g A.rh A.re
theorem ss_cons (h1 : SS X w st f) (h2 : SSs X w rest g) : SSs X w (st :: rest) (sSeq f g) := PSs.imp (pss_cons h1 h2) fun D σ H ⟨B, L, ρ, S, env, A, gg⟩ => by
  refine ⟨B, L, ρ, S, env, A, ?_⟩
  revert gg
  unfold sSeq
  cases f env S with
  | nx env' S' => exact fun g σ' ρ' H' p R re => ⟨B, L, ρ', S', env', ⟨R, re⟩, GS.step g p⟩
  | bk e S' => exact fun g => g
  | ct e S' => exact fun g => g
  | rt e S' => exact fun g => g
  | xc c S' => exact fun g => g
  | bad => exact fun g => g
theorem ss_one (h1 : SS X w st f) : SSs X w [st] f := pss_one h1
theorem ss_pass : SS X w (.Pass pos) sSkip := PS.imp ps_pass fun D σ H ⟨B, L, ρ, S, env, A, g⟩ => GS.nx0 g A.rh A.re
theorem ss_break : SS X w (.Break pos) sBreak := PS.imp ps_break fun D σ H ⟨B, L, ρ, S, env, A, g⟩ => g σ ρ H Post.refl A.rh A.re
theorem ss_cont : SS X w (.Continue pos) sCont := PS.imp ps_continue fun D σ H ⟨B, L, ρ, S, env, A, g⟩ => g σ ρ H Post.refl A.rh A.re
theorem ss_expr (he : SE X w e fe) (hs : swapsWith e none pos.line X.env = pure false := by rfl) : SS X w (.Expr e pos) (sExpr fe) := PS.imp (ps_expr he hs) fun D σ H ⟨B, L, ρ, S, env, A, g⟩ =>
  tE_mono (tE_bindS A g) fun x H1 ⟨B, L, ρ, S, d, A, r, g⟩ => GS.nx0 g A.rh A.re
theorem ss_ret (he : SE X w e fe) : SS X w (.Return (some e) pos) (sRet fe) := PS.imp (ps_ret he) fun D σ H ⟨B, L, ρ, S, env, A, g⟩ =>
  tE_mono (tE_bindS A g) fun x H1 ⟨B, L, ρ, S, d, A, r, g⟩ => g x ρ H1 Post.refl A.rh r
theorem ss_retN : SS X w (.Return none pos) (sRet (fCon .non)) := PS.imp ps_retN fun D σ H ⟨B, L, ρ, S, env, A, g⟩ => g .non ρ H Post.refl A.rh .non
theorem ss_if {c : Expr} {a b : List Stmt} (hc : ST X w c fc) (ha : SSs X w a f) (hb : SSs X w b g) : SS X w (.If c a b pos) (sIf fc f g) := PS.imp (ps_if hc ha hb) fun D σ H ⟨B, L, ρ, S, env, A, gg⟩ =>
  tT_mono (tT_bindS A gg) fun x H1 ⟨B, L, ρ, S, A, g⟩ => by
    cases x with
    | true => exact iteT ⟨B, L, ρ, S, env, A, g⟩
    | false => exact iteF ⟨B, L, ρ, S, env, A, g⟩
theorem ss_set {i : Nat} {x : Str} {pos' : Pos} (hN : X.N.Nodup) (hi : X.N[i]? = some x) (hx : Loc X.env.scope x) (he : SE X w e fe) (hs : swapsWith e (some (.Name x pos')) pos.line X.env = pure false := by rfl) (hf : X.fn x = true ∨ X.env.scope.names.lookup x = some .local := by first | exact .inl rfl | exact .inr rfl | assumption) :
    SS X w (.Assign [.Name x pos'] e pos) (sAsg i fe) := PS.imp (ps_set hN hi hx he hs hf) fun D σ H ⟨B, L, ρ, S, env, A, g⟩ =>
  tE_mono (tE_bindS A g) fun x H1 ⟨B, L, ρ, S, d, A, r, g⟩ => GS.nx0 g A.rh (A.re.set i r)
/-- the same, whatever the rule for the assignment is -/
theorem ss_set' {i : Nat} {te : TE} (h : PS X st (tAsg te (gName i))) (he : ∀ σ H Q, tE (pg X) w.W w.xm fe σ H Q → te σ H Q) : SS X w st (sAsg i fe) := PS.imp h fun D σ H ⟨B, L, ρ, S, env, A, g⟩ =>
  he _ _ _ (tE_mono (tE_bindS A g) fun x H1 ⟨B, L, ρ, S, d, A, r, g⟩ => GS.nx0 g A.rh (A.re.set i r))

/-! ### targets -/
/-- t is a target's rule, g its function, is its slots -/
def TgOk (K : PySem.W.Frag) (t : TG) (g : D → En → Option En) (is : List Nat) : Prop := ∀ (B L ρ : List Addr) (H : Hp) (d : D) (v : V) (env env' : En) (σ : L2.St) (Q : L2.St → Hp → Prop), RV K B ρ H d v → RE K B ρ H env σ → g d env = some env' →
    (∀ σ', RE K B ρ H env' σ' → (∀ vs : List Nat, (∀ i ∈ is, i ∈ vs) → wipe σ' vs = wipe σ vs) → Q σ' H) → t v σ H Q
structure SG (X : Cx) (tg : Expr) (t : TG) (g : D → En → Option En) (is : List Nat) : Prop where
  pg : PG X tg t
  ok : TgOk X.K t g is
def tgName (i : Nat) (d : D) (env : En) : Option En := some (env.set i d)
theorem wipe_set {σ : L2.St} {i : Nat} {v : V} : ∀ {vs : List Nat}, i ∈ vs → wipe (σ.set i (some v)) vs = wipe σ vs
  | a :: vs, h => by
    unfold L2.wipe
    by_cases hi : i ∈ vs
    · rw [wipe_set hi]
    · have : i = a := by rcases List.mem_cons.mp h with h | h; exact h; exact absurd h hi
      subst this
      have key : ∀ (σ : L2.St) (vs : List Nat), i ∉ vs → wipe (σ.set i (some v)) vs = (wipe σ vs).set i (some v) := by
        intro σ vs
        induction vs with
        | nil => intro _; rfl
        | cons b vs ih =>
          intro hb
          unfold L2.wipe
          rw [ih (fun z => hb (List.mem_cons_of_mem _ z)), List.set_comm _ _ (by rintro rfl; exact hb List.mem_cons_self)]
      rw [key σ vs hi, List.set_set]
theorem tgk_name {K : PySem.W.Frag} {i : Nat} : TgOk K (gName i) (tgName i) [i] := fun B L ρ H d v env env' σ Q r re e k => by
  cases e
  exact k _ (re.set i r) fun vs hv => wipe_set (hv i (by simp))
theorem sg_name {i : Nat} {x : Str} (h : PG X (.Name x pos) (gName i)) : SG X (.Name x pos) (gName i) (tgName i) [i] := ⟨h, tgk_name⟩
/-- names in a row -/
def TgsOk (t : TGs) (is : List Nat) : Prop := ∀ (vs : List V) (σ : L2.St) (H : Hp) (Q : L2.St → Hp → Prop), vs.length = is.length → Q (setAllS σ is vs) H → t vs σ H Q
structure SGs (X : Cx) (es : List Expr) (t : TGs) (is : List Nat) : Prop where
  pg : PGs X es t
  ok : TgsOk t is
theorem tgsk_nil : TgsOk gNil [] := fun vs σ H Q h k => by
  cases vs with
  | nil => exact ⟨rfl, k⟩
  | cons => simp at h
theorem tgsk_cons {i : Nat} {is : List Nat} {t : TGs} (hr : TgsOk t is) : TgsOk (gCons (gName i) t) (i :: is) := fun vs σ H Q hl k => by
  cases vs with
  | nil => simp at hl
  | cons v vs => exact ⟨v, vs, rfl, hr vs _ H Q (by simpa using hl) k⟩
theorem sgs_nil : SGs X [] gNil [] := ⟨pgs_nil, tgsk_nil⟩
theorem sgs_cons {es : List Expr} {i : Nat} {is : List Nat} {t : TGs} (h : PG X e (gName i)) (hr : SGs X es t is) (hs : (assignEach (e :: es) X.env).map (·.2) = assign e X.env :: (assignEach es X.env).map (·.2) := by rfl) : SGs X (e :: es) (gCons (gName i) t) (i :: is) :=
  ⟨pgs_cons h hr.pg hs, tgsk_cons hr.ok⟩
theorem RE.setAll {K : PySem.W.Frag} {B ρ : List Addr} {H : Hp} {is : List Nat} : ∀ {env : En} {σ : L2.St} {ds : List D} {vs : List V}, RE K B ρ H env σ → RVs K B ρ H ds vs → RE K B ρ H (setAllE env is ds) (setAllS σ is vs) := by
  induction is with
  | nil => intro env σ ds vs h r; cases r <;> exact h
  | cons i is ih =>
    intro env σ ds vs h r
    cases r with
    | nil => exact h
    | cons r t => exact ih (h.set i r) t
theorem wipe_setAll : ∀ {is : List Nat} {σ : L2.St} {xs : List V} {vs : List Nat}, (∀ i ∈ is, i ∈ vs) → wipe (setAllS σ is xs) vs = wipe σ vs
  | [], _, xs, _, _ => by cases xs <;> rfl
  | i :: is, _, [], _, _ => rfl
  | i :: is, σ, x :: xs, vs, h => by
    show wipe (setAllS (σ.set i (some x)) is xs) vs = _
    rw [wipe_setAll fun j hj => h j (List.mem_cons_of_mem _ hj), wipe_set (h i List.mem_cons_self)]
theorem unTup_ok {K : PySem.W.Frag} {B ρ : List Addr} {H : Hp} {is : List Nat} {d : D} {v : V} {env env' : En} {σ : L2.St} (r : RV K B ρ H d v) (re : RE K B ρ H env σ) (e : unTup is d env = some env') :
    ∃ a xs, v = .ref a ∧ SqT K H a xs ∧ xs.length = is.length ∧ RE K B ρ H env' (setAllS σ is xs) := by
  cases r with
  | @tup a vs ds h1 h2 =>
    unfold unTup at e
    simp only at e
    cases hf : Nat.beq ds.length is.length with
    | false => rw [hf] at e; cases e
    | true =>
      rw [hf] at e; cases e
      exact ⟨a, vs, rfl, h1.sq, by rw [← h2.length]; exact Nat.eq_of_beq_eq_true hf, re.setAll h2⟩
  | _ => cases e
theorem tgk_tup {K : PySem.W.Frag} {n : Nat} {t : TGs} {is : List Nat} (h : TgsOk t is) (hl : is.length = n) : TgOk K (gTup K n t) (unTup is) is := fun B L ρ H d v env env' σ Q r re e k => by
  obtain ⟨a, xs, rfl, h1, h2, h3⟩ := unTup_ok r re e
  exact ⟨a, xs, rfl, h1, h2.trans hl, h xs σ H Q h2 (k _ h3 fun vs hv => wipe_setAll hv)⟩
theorem sg_tup {es : List Expr} {k n : Nat} {t : TGs} {is : List Nat} (h : SGs X es t is) (hc : X.calm = true) (hl : is.length = n) (hn : (assignEach es X.env).length = n := by rfl) (hst : (assignEach es X.env).findIdx? (·.1) = none := by rfl) : SG X (.Tuple es k pos) (gTup X.K n t) (unTup is) is :=
  ⟨pg_tup hc h.pg hn hst, tgk_tup h.ok hl⟩
/-- target = e -/
theorem ss_asgT {tg : Expr} {t : TG} {is : List Nat} (hg : SG X tg t (unTup is) is) (he : SE X w e fe) (hs : swapsWithSole [tg] e pos.line X.env = pure false := by rfl) (hw : swappedStores [tg] e X.env = pure none := by rfl)
    (h1 : (assignEach [tg] X.env).map (·.2) = [assign tg X.env] := by rfl) : SS X w (.Assign [tg] e pos) (sAsgT is fe) := PS.imp (ps_asg he hg.pg hs hw h1) fun D σ H ⟨B, L, ρ, S, env, A, g⟩ =>
  tE_mono (tE_bindS A g) fun x H1 ⟨B, L, ρ, S, d, A, r, g⟩ => by
    cases hu : unTup is d env with
    | none => rw [hu] at g; exact g.elim
    | some env' =>
      rw [hu] at g
      exact hg.ok B L ρ H1 d x env env' σ D.nx r A.re hu fun σ' re _ => GS.nx0 g A.rh re
theorem tA_bindS {D : Ends} {G : Pg} {W : WX} {xm : XM} {B L ρ S env σ H} {k : List Sf.D → Sto → SR} (A : At G B L ρ S env σ H) (g : GS G W xm B L ρ H ((fs env S).bindS k) D) :
    tA G W xm fs σ H fun x H1 => ∃ B L ρ S d, At G B L ρ S env σ H1 ∧ RVs G.K B ρ H1 d x ∧ GS G W xm B L ρ H1 (k d S) D := by
  refine ⟨B, L, ρ, S, env, A, ?_⟩
  revert g
  cases fs env S with
  | ok d S' => exact fun g v ρ' H' p R r => ⟨B, L, ρ', S', d, A.step p R, r, GS.step g p⟩
  | exc c S' => exact fun g => g σ
  | bad => exact fun g => g
/-- a, b = x, y; a, b, c = x, y, z with plain local names -/
def len2 : List D → Bool
  | [_, _] => true
  | _ => false
def len3 : List D → Bool
  | [_, _, _] => true
  | _ => false
def sPar2 (i j : Nat) (fs : FA) : FS := fun env S => (fs env S).bindS fun xs S1 => bif len2 xs then .nx (setAllE env [i, j] xs) S1 else .bad
def sPar3 (i j k : Nat) (fs : FA) : FS := fun env S => (fs env S).bindS fun xs S1 => bif len3 xs then .nx (setAllE env [i, j, k] xs) S1 else .bad
theorem ss_par2 {i j : Nat} {ta : TA} (h : PS X st (tPar i j ta)) (ha : ∀ σ H Q, tA (pg X) w.W w.xm fs σ H Q → ta σ H Q) : SS X w st (sPar2 i j fs) := PS.imp h fun D σ H ⟨B, L, ρ, S, env, A, g⟩ =>
  ha _ _ _ (tA_mono (tA_bindS A g) fun x H1 ⟨B, L, ρ, S, d, A, r, g⟩ => by
    match d, r, g with
    | [a, b], .cons r1 (.cons r2 .nil), g => exact ⟨_, _, rfl, GS.nx0 g A.rh ((A.re.set i r1).set j r2)⟩)
theorem ss_par3 {i j k : Nat} {ta : TA} (h : PS X st (tPar3 i j k ta)) (ha : ∀ σ H Q, tA (pg X) w.W w.xm fs σ H Q → ta σ H Q) : SS X w st (sPar3 i j k fs) := PS.imp h fun D σ H ⟨B, L, ρ, S, env, A, g⟩ =>
  ha _ _ _ (tA_mono (tA_bindS A g) fun x H1 ⟨B, L, ρ, S, d, A, r, g⟩ => by
    match d, r, g with
    | [a, b, c], .cons r1 (.cons r2 (.cons r3 .nil)), g => exact ⟨_, _, _, rfl, GS.nx0 g A.rh (((A.re.set i r1).set j r2).set k r3)⟩)

/-! ### o[i] = e, o[i] op= e, x op= e -/
theorem setO_ok {G : Pg} {B L ρ : List Addr} {S S' : Sto} {H : Hp} {o i v : D} {ov iv vv : V} {Q : Hp → Prop} (R : RH G B L ρ H S) (ro : RV G.K B ρ H o ov) (ri : RV G.K B ρ H i iv) (rv : RV G.K B ρ H v vv) (e : setO o i v S = some S')
    (q : ∀ H', Post L ρ H ρ H' → RH G B L ρ H' S' → Q H') : rSetL ov iv vv H Q := by
  cases ro with
  | @loc n a h =>
    cases ri with
    | int k =>
      unfold setO at e
      simp only at e
      cases q1 : S[n]? with
      | none => rw [q1] at e; cases e
      | some ob =>
        rw [q1] at e
        cases ob with
        | lst l =>
          simp only at e
          cases q2 : ixN l.length k with
          | none => rw [q2] at e; cases e
          | some j =>
            rw [q2] at e; cases e
            obtain ⟨vs, h1, h2⟩ := R.ob n a _ h q1
            have hl : a ∉ L := R.notL h1 fun _ _ z => nomatch z
            refine ⟨a, vs, k, j, rfl, rfl, h1, by rw [← h2.length]; exact q2, ?_⟩
            exact q _ (Post.wr h hl) (R.wr h hl ⟨_, upd_same, RVs.mono (Post.wr (L := L) h hl) _ _ (h2.set rv j)⟩)
        | _ => cases e
    | _ => cases e
  | _ => cases e
theorem ss_setIx {o i : Expr} {opos : Pos} (he : SE X w e fe) (ho : SE X w o fo) (hi : SE X w i fi) (hs : swapsWithSole [.Subscript o i opos] e pos.line X.env = pure false := by rfl) (hw : swappedStores [.Subscript o i opos] e X.env = pure none := by rfl)
    (h1 : (assignEach [.Subscript o i opos] X.env).map (·.2) = [assign (.Subscript o i opos) X.env] := by rfl)
    (ha : ∀ v, assign (.Subscript o i opos) X.env v = (do
      let ov ← holding [v] (eval o X.env)
      let iv ← holding [v, ov] (eval i X.env)
      standAt opos
      holding [v, ov, iv] (setItem ov iv v)
      release [v, ov, iv] []) := by intro _; rfl) : SS X w (.Assign [.Subscript o i opos] e pos) (sAsgIx fe fo fi) :=
  PS.imp (ps_asg he (pg_sub ho hi set_list ha) hs hw h1) fun D σ H ⟨B, L, ρ, S, env, A, g⟩ =>
    tE_mono (tE_bindS3 A g) fun x H1 h => tE_mono h fun y H2 h => tE_mono h fun z H3 ⟨B, L, ρ, S, d, d', d'', A, r, r', r'', g⟩ => by
      cases hu : setO d' d'' d S with
      | none => rw [hu] at g; exact g.elim
      | some S' =>
        rw [hu] at g
        exact setO_ok A.rh r' r'' r hu fun H' p R => g σ ρ H' p R (A.re.mono p)
theorem ss_aug {i : Nat} {x : Str} {op : Operator} {r : R2} {g : Op2} {pos' : Pos} (hN : X.N.Nodup) (hi : X.N[i]? = some x) (hx : Loc X.env.scope x) (ho : OpR X (inplaceOp op) r) (h : Ok2 (pg X) r g) (he : SE X w e fe) (hf : X.fn x = true ∨ X.env.scope.names.lookup x = some .local := by first | exact .inl rfl | exact .inr rfl | assumption) :
    SS X w (.AugAssign (.Name x pos') op e pos) (sAug i g fe) := PS.imp (ps_aug hN hi hx he ho hf) fun D σ H ⟨B, L, ρ, S, env, A, gg⟩ => by
  unfold sAug fVar at gg
  cases q : env[i]? with
  | none => rw [q] at gg; exact gg.elim
  | some d =>
    rw [q] at gg
    rcases A.re.at' i d q with z | ⟨v, e1, rv⟩
    · subst z; exact gg.elim
    · have gg' : GS (pg X) w.W w.xm B L ρ H ((fe env S).bindS fun y S2 => match g d y S2 with
          | some (z, S3) => .nx (env.set i z) S3
          | none => .bad) D := by
        cases d
        case und => exact gg.elim
        all_goals exact gg
      refine ⟨v, e1, ?_⟩
      refine ⟨B, L, ρ, S, env, A, ?_⟩
      revert gg'
      cases fe env S with
      | ok d2 S' =>
        intro gg' v2 ρ' H' p R r2
        have g2 := GS.step gg' p
        revert g2
        show GS (pg X) w.W w.xm B L ρ' H' (match g d d2 S' with
          | some (z, S3) => .nx (env.set i z) S3
          | none => .bad) D → _
        cases hu : g d d2 S' with
        | none => exact fun g2 => g2.elim
        | some zs =>
          obtain ⟨z, S3⟩ := zs
          intro g2
          exact h B L ρ' S' S3 H' d d2 z v v2 _ R (rv.mono p) r2 hu fun v3 ρ3 H3 p3 R3 r3 => g2 _ ρ3 H3 p3 R3 ((A.re.mono (p.trans p3)).set i r3)
      | exc c S' => exact fun g => g σ
      | bad => exact fun g => g
theorem ss_augIx {o i : Expr} {op : Operator} {r : R2} {g : Op2} {tpos : Pos} (ho' : OpR X (inplaceOp op) r) (h : Ok2 (pg X) r g) (ho : SE X w o fo) (hi : SE X w i fi) (he : SE X w e fe)
    (ha : ∀ ov iv new, augStore i ov iv new = (do holding [new, ov, iv] (setItem ov iv new); release [new, ov, iv] []; pure .next) := by intros; rfl) : SS X w (.AugAssign (.Subscript o i tpos) op e pos) (sAugIx g fo fi fe) :=
  PS.imp (ps_augS (tget := rIxL X.K) (tset := rSetL) (tip := r) ho hi pget_list he ho' set_list ha) fun D σ H ⟨B, L, ρ, S, env, A, gg⟩ =>
    tE_mono (tE_bindS2 A gg) fun x H1 h1 => tE_mono h1 fun y H2 ⟨B, L, ρ, S, d, d', A, r1, r2, g2⟩ => by
      cases d with
      | loc n =>
        cases d' with
        | int k =>
          unfold augK at g2
          simp only at g2
          cases hu : oIx (.loc n) (.int k) S with
          | none => rw [hu] at g2; exact g2.elim
          | some xs =>
            obtain ⟨x1, S1⟩ := xs
            rw [hu] at g2
            unfold oIx at hu
            simp only at hu
            cases e1 : lsR (.loc n) S with
            | none => rw [e1] at hu; cases hu
            | some l =>
              rw [e1] at hu
              simp only at hu
              cases e2 : ixD l k with
              | none => rw [e2] at hu; cases hu
              | some d3 =>
                rw [e2] at hu; cases hu
                obtain ⟨a, vs, rfl, h5, h6⟩ := lsR_ok (G := pg X) A.rh r1 e1
                obtain ⟨v, e3, r3⟩ := ixD_ok (G := pg X) h6 e2
                cases r2
                refine ⟨a, vs, k, v, rfl, rfl, h5, e3, ?_⟩
                refine ⟨B, L, ρ, S, env, A, ?_⟩
                revert g2
                show GS (pg X) w.W w.xm B L ρ H2 ((fe env S).bindS fun y S4 => augJ g env (.loc n) (.int k) x1 y S4) D → _
                cases fe env S with
                | ok d4 S4 =>
                  intro g2 v4 ρ4 H4 p4 R4 r4
                  have g4 := GS.step g2 p4
                  revert g4
                  show GS (pg X) w.W w.xm B L ρ4 H4 (augJ g env (.loc n) (.int k) x1 d4 S4) D → _
                  unfold augJ
                  cases hg : g x1 d4 S4 with
                  | none => exact fun g => g.elim
                  | some zs =>
                    obtain ⟨z, S5⟩ := zs
                    intro g4
                    refine h B L ρ4 S4 S5 H4 x1 d4 z v v4 _ R4 (r3.mono p4) r4 hg fun v5 ρ5 H5 p5 R5 r5 => ?_
                    have g5 : GS (pg X) w.W w.xm B L ρ4 H4 (sto env (setO (.loc n) (.int k) z S5)) D := g4
                    cases hs : setO (.loc n) (.int k) z S5 with
                    | none => rw [hs] at g5; exact g5.elim
                    | some S6 =>
                      rw [hs] at g5
                      refine setO_ok R5 ((r1.mono p4).mono p5) (.int k) r5 hs fun H6 p6 R6 => ?_
                      exact g5 σ ρ5 H6 (p5.trans p6) R6 (A.re.mono (p4.trans (p5.trans p6)))
                | exc c S' => exact fun g => g σ
                | bad => exact fun g => g
        | _ => cases g2
      | _ => cases g2

/-! ### while -/
theorem ss_while {c : Expr} {body : List Stmt} (N : Nat) (hp : PassesOwn (model X.prog X.w) X.A X.env X.xe) (hc : ST X w c fc) (hb : SSs X w body f) : SS X w (.While c body [] pos) (whileL fc f N) := PS.imp (ps_while hp hc hb) fun D σ H ⟨B, L, ρ, S, env, A, gg⟩ => by
  refine ⟨fun m σ H => ∃ B L ρ S env, At (pg X) B L ρ S env σ H ∧ GS (pg X) w.W w.xm B L ρ H (whileL fc f m env S) D, ⟨N, B, L, ρ, S, env, A, gg⟩, fun m σ H ⟨B, L, ρ, S, env, A, g⟩ => ?_⟩
  cases m with
  | zero => exact g.elim
  | succ m =>
    unfold whileL at g
    refine tT_mono (tT_bindS A g) fun b H1 ⟨B, L, ρ, S, A, g⟩ => ?_
    cases b with
    | false => exact iteF (GS.nx0 g A.rh A.re)
    | true =>
      refine iteT ⟨fun σ H => ∃ B L ρ S env, At (pg X) B L ρ S env σ H ∧ GS (pg X) w.W w.xm B L ρ H (whileL fc f m env S) D, fun σ' H' h => ⟨m, Nat.lt_succ_self m, h⟩, ?_⟩
      refine ⟨B, L, ρ, S, env, A, ?_⟩
      revert g
      show GS (pg X) w.W w.xm B L ρ H1 (match f env S with
        | .nx env' S' => whileL fc f m env' S'
        | .ct env' S' => whileL fc f m env' S'
        | .bk env' S' => .nx env' S'
        | r => r) D → _
      cases f env S with
      | nx env' S' => exact fun g σ' ρ' H' p R re => ⟨B, L, ρ', S', env', ⟨R, re⟩, GS.step g p⟩
      | ct env' S' => exact fun g σ' ρ' H' p R re => ⟨B, L, ρ', S', env', ⟨R, re⟩, GS.step g p⟩
      | bk e S' => exact fun g => g
      | rt e S' => exact fun g => g
      | xc c S' => exact fun g => g
      | bad => exact fun g => g
end
end Sf
end

section
set_option Elab.async false
set_option maxRecDepth 100000
set_option linter.all false
/-! SfE: enumerate over a tuple; a walk over a list or a tuple. -/
namespace Sf
open PySem PySem.Spec PyProof.Rows L2
open AutoSeq1 (wpAny_loadPart')

theorem meets_enum_newT (l : Addr) (items : Array Value) (n : Nat) (dct : Option Addr) (sl : Array (Option Value)) :
    Meets (Builtin.«enumerate.__new__» ⟨[.type "enumerate", .ref l], []⟩) (fun _ R s => s.heap.get? l = some { cls := .type "tuple", dict := dct, data := .seq items n, slots := sl } ∧
      R (.ok (.ret (.ref (s.heap.push { cls := .type "tuple_iterator", data := .fields #[.ref l, .int 0 0] }).objs.size)))
        { s with heap := (s.heap.push { cls := .type "tuple_iterator", data := .fields #[.ref l, .int 0 0] }).push { cls := .type "enumerate", data := .fields #[.none, .bool false, .ref s.heap.objs.size, rawInt 0, .none, .none] } }) :=
  .of_wp fun prog w A R s h => by
    obtain ⟨hp, g, d, tk, os⟩ := s; obtain ⟨hl, h⟩ := h
    have hsub := sub_enumerate
    have hL : Heap.IsTuple (Shared.heap ⟨hp, g, d, tk, os⟩) l items := ⟨_, hl, rfl, n, rfl⟩
    wp_walk using wpAny_loadPart' hl
    refine wpAny_stack_any fun st => wpAny_pure ?_
    split
    · rename_i c _ _ _ _ _
      cases (c == Value.type "enumerate")
      · wp_walk using wpAny_loadPart' hl, wpAny_pyIter_tuple hL
        exact ⟨_, rfl, h⟩
      · wp_walk using wpAny_loadPart' hl, wpAny_pyIter_tuple hL
        exact ⟨_, rfl, h⟩
    · wp_walk using wpAny_loadPart' hl, wpAny_pyIter_tuple hL
      exact ⟨_, rfl, h⟩
theorem call_enum_tuple {prog : Program} {w : World} {A : Around} {E : Value → Shared → Prop} {s : Shared} {l : Addr} {items : Array Value} {Q : Value → Shared → Prop} (hL : s.heap.IsTuple l items)
    (h : ∀ h', IsEnum h' (s.heap.objs.size + 1) s.heap.objs.size 0 .none → h'.IsTupleIter s.heap.objs.size l 0 → h'.objs.size = s.heap.objs.size + 2 →
      (∀ b o, s.heap.get? b = some o → h'.get? b = some o) → Q (.ref (s.heap.objs.size + 1)) { s with heap := h' }) :
    wpAny (model prog w) A (call (.type "enumerate") [.ref l]) Q E s := by
  obtain ⟨⟨c, dct, dt, sl⟩, hl, hc, n, hd⟩ := hL
  replace hc : c = .type "tuple" := hc
  replace hd : dt = .seq items n := hd
  subst hc hd
  refine callType_new F.called_enumerate (by decide) (F.typeCall_enumerate_1 _) (F.newCall_enumerate_1 _) (fun obj => F.args_object_init_2 obj _) F.entry_enumerate_new
    (meets_enum_newT l items n dct sl) ⟨hl, ?_⟩
  have hz : (s.heap.push { cls := .type "tuple_iterator", data := .fields #[.ref l, .int 0 0] }).objs.size = s.heap.objs.size + 1 := Heap.size_push ..
  show _ ∧ _
  rw [hz]
  have he : IsEnum ((s.heap.push { cls := .type "tuple_iterator", data := .fields #[.ref l, .int 0 0] }).push
      { cls := .type "enumerate", data := .fields #[.none, .bool false, .ref s.heap.objs.size, rawInt 0, .none, .none] }) (s.heap.objs.size + 1) s.heap.objs.size 0 .none := by
    have := Heap.get?_push_size (s.heap.push { cls := .type "tuple_iterator", data := .fields #[.ref l, .int 0 0] })
      (o := { cls := .type "enumerate", data := .fields #[.none, .bool false, .ref s.heap.objs.size, rawInt 0, .none, .none] }) rfl
    rw [hz] at this; exact this
  refine ⟨⟨_, he, rfl⟩, h _ he ⟨_, Heap.get?_push_of_some _ (Heap.get?_push_size _ rfl), rfl, rfl⟩ (by rw [Heap.size_push, hz]) fun b o x => Heap.get?_push_of_some _ (Heap.get?_push_of_some _ x)⟩

/-- the tuple at a, each item in a new pair -/
def IteT (K : PySem.W.Frag) (a : Addr) : It :=
  ⟨fun i H => ∃ (xs : List V) (x : V), SqT K H a xs ∧ xs[i]? = some x, fun i H v H' => ∃ T x, v = .ref T ∧ H T = none ∧ H' = upd H T (.tup [.int (i : Nat), x]) ∧ ∀ xs, SqT K H a xs → xs[i]? = some x, fun i H => ∃ xs : List V, SqT K H a xs ∧ xs.length = i⟩
theorem turn_enumT {P : Program} {w : World} {K : PySem.W.Frag} {elts : List Expr} {kk : Nat} {tpos : Pos} (a e it : Addr) :
    Turn P w K (.Tuple elts kk tpos) (IteT K a) [e, it] e (fun i h => (∃ old, IsEnum h e it ((i : Nat) : Int) old) ∧ h.IsTupleIter it a i ∧ e ≠ it ∧ a ≠ it ∧ a ≠ e) where
  mem := by simp
  obj := fun i h st b hb => by
    obtain ⟨⟨old, he⟩, ⟨o, ho, hc, hd⟩, _⟩ := st
    have e' : b = e ∨ b = it := by simpa using hb
    rcases e' with z | z
    · rw [z]; exact ⟨_, he, fun v q => nomatch q⟩
    · rw [z]; exact ⟨o, ho, fun v q => by rw [hd] at q; cases q⟩
  keep := fun i h h' st k => let ⟨⟨old, he⟩, hi, hne⟩ := st; ⟨⟨old, k e (by simp) _ he⟩, hi.at fun o q => k it (by simp) o q, hne⟩
  item := by
    intro X hP hw hK hc i pins s σ H E I hf st hg
    subst hP hw hK
    obtain ⟨⟨old, he⟩, hit, hne, ha1, ha2⟩ := st
    obtain ⟨xs, x, hq, hx⟩ := hg
    obtain ⟨its, rv, p, hz⟩ := I.tuple hq
    obtain ⟨u, hu, ru⟩ := rv.get hx
    have hel : e < s.heap.objs.size := Heap.lt_size he
    have hil : it < s.heap.objs.size := by obtain ⟨_, q, _⟩ := hit; exact Heap.lt_size q
    have hlt : i < its.toArray.size := by
      have := (List.getElem?_eq_some_iff.mp hu).1
      simpa using this
    refine wpAny_pyNext_enum_itemD (PySem.Draws.tuple (A := X.A.in1) (I.ok.hd hc) it a ha1 its.toArray) he ⟨hit, p⟩ hlt hne (by simp [hne, Ne.symm ha2]) fun y h' tk hy ho st' hT hsz hk => ?_
    have hyu : y = u := by
      have h1 : its[i]? = some y := by simpa using hy
      rw [hu] at h1
      exact (Option.some.inj h1).symm
    subst hyu
    refine ⟨_, rfl, wpAny_letOwnedTupleGo_enum (s := { s with heap := h', toks := tk + 1 }) ho fun h'' he' sb => ?_⟩
    have hT2 : h''.get? s.heap.objs.size = some { cls := .type "tuple", data := .seq #[.int i tk, y] } := (sb.2 _ (Nat.ne_of_gt hel)).trans hT
    have new : ObjOk X.prog X.w (upd H s.heap.objs.size (.tup [.int (i : Nat), x])) h'' s.heap.objs.size (.tup [.int (i : Nat), x]) :=
      ⟨by show 2 ≤ sizeLine; decide, [.int i tk, y], .cons ⟨_, rfl⟩ (.cons ru .nil), ⟨_, hT2, rfl, _, rfl⟩⟩
    have I1 : Inv X pins σ (upd H s.heap.objs.size (.tup [.int (i : Nat), x])) { s with heap := h'', toks := tk + 1 } :=
      I.turnedNew (ch := [e, it]) (fun b ob hb q => (sb.2 b (fun z => hb (by simp [z]))).trans (hk b ob (fun z => hb (by simp [z])) (fun z => hb (by simp [z])) q)) hf (Nat.le_refl _) new
    refine ⟨.ref s.heap.objs.size, _, I1, rfl, ⟨_, x, rfl, I.hok.fresh (Nat.le_refl _), rfl, fun ys hy => by rw [I.tuple_inj hy hq]; exact hx⟩, ⟨⟨y, ?_⟩, st'.1.at fun o q => (sb.2 it (Ne.symm hne)).trans q, hne, ha1, ha2⟩, fun b hb => ?_⟩
    · have e1 : ((i + 1 : Nat) : Int) = (i : Int) + 1 := by omega
      rw [e1]; exact he'
    · have hb' : b < s.heap.objs.size := by
        have e' : b = e ∨ b = it := by simpa using hb
        rcases e' with z | z
        · rw [z]; exact hel
        · rw [z]; exact hil
      rw [upd_ne (Nat.ne_of_lt hb')]
      exact (hf b hb).1
  done := by
    intro X hP hw hK hc i pins s σ H E I hf st hg
    subst hP hw hK
    obtain ⟨⟨old, he⟩, hit, hne, ha1, ha2⟩ := st
    obtain ⟨xs, hq, hx⟩ := hg
    obtain ⟨its, rv, p, hz⟩ := I.tuple hq
    obtain ⟨f0, f1, f2, f3, f4, f5⟩ := hf it (by simp)
    have hl := rv.length
    have hsz : its.toArray.size = i := by simp; omega
    refine wpAny_pyNext_enum_endD (PySem.Draws.tuple (A := X.A.in1) (I.ok.hd hc) it a ha1 its.toArray) he ?_ fun h' eb => ⟨rfl, I.turned (t' := s.toks) (fun b o hb q => eb b o hb q) f0 f1 f3 f4 f5⟩
    rw [hsz]
    exact ⟨hit, p⟩
  self := fun A i s Q E st h => let ⟨⟨_, he⟩, _⟩ := st; wpAny_pyIter_enum he h
def iEnumT (K : PySem.W.Frag) (ta : TA) : TI := fun σ H R => ta σ H fun vs H1 => ∃ a xs, vs = [.ref a] ∧ SqT K H1 a xs ∧ R (IteT K a) H1
theorem pi_enumT {X : Cx} {e : Expr} {ta : TA} {p pos tpos : Pos} {elts : List Expr} {kk : Nat} (hg : Gl X "enumerate") (hm : X.mg "enumerate" = none) (ha : PA X [e] ta) (hs : starEach [e] X.env = [(false, eval e X.env)] := by rfl) :
    PI X (.Tuple elts kk tpos) (.Call (.Name "enumerate" p) [e] [] pos) (iEnumT X.K ta) := by
  refine ⟨fun pins s σ H R I h => ?_⟩
  refine Call_ (ld_blt I hg hm boot_enumerate (PyProof.Rows.callWith_type1 (thn (ha.run pos pins s σ H _ I h) fun us s1 ⟨vs, H1, I1, r1, q1⟩ => ?_) hs rfl))
  obtain ⟨a, xs, ex, hq, q⟩ := q1
  subst ex
  cases r1 with
  | cons r rr =>
    cases rr
    cases r
    obtain ⟨its, rv, p', hz⟩ := I1.tuple hq
    have hal : a < s1.heap.objs.size := by obtain ⟨o, q, _⟩ := id p'; exact Heap.lt_size q
    refine call_enum_tuple (show s1.heap.IsTuple a its.toArray from p') fun h' he hit hsz hk => wpAny_pyIter_enum he ?_
    have I2 : Inv X pins σ H1 { s1 with heap := h' } := I1.kept (t' := s1.toks) hk
    refine ⟨s1.heap.objs.size + 1, [s1.heap.objs.size + 1, s1.heap.objs.size], _, _, H1, rfl, I2, turn_enumT a (s1.heap.objs.size + 1) s1.heap.objs.size, ⟨⟨.none, he⟩, hit, Nat.succ_ne_self _, Nat.ne_of_lt hal, Nat.ne_of_lt (Nat.lt_succ_of_lt hal)⟩, fun b hb => ?_, q⟩
    have e' : b = s1.heap.objs.size + 1 ∨ b = s1.heap.objs.size := by simpa using hb
    have hle : s1.heap.objs.size ≤ b := by
      rcases e' with z | z
      · rw [z]; exact Nat.le_add_right _ _
      · rw [z]; exact Nat.le_refl _
    exact I1.fpOk hle (I1.hok.fresh hle)
/-- a list or a tuple, walked -/
def iSeq (K : PySem.W.Frag) (tl : TE) : TI := fun σ H R => tl σ H fun x H1 => ∃ a, x = .ref a ∧ (((∃ xs, SqL K H1 a xs) ∧ R (Itl K a) H1) ∨ ((∃ xs, SqT K H1 a xs) ∧ R (Itt K a) H1))
theorem pi_seq {X : Cx} {tg l : Expr} {tl : TE} (hl : PE X l tl) : PI X tg l (iSeq X.K tl) := by
  refine ⟨fun pins s σ H R I h => ?_⟩
  refine thn (hl.run pins s σ H _ I h) fun v s1 ⟨x, H1, I1, r1, q1⟩ => ?_
  obtain ⟨a, e, q⟩ := q1
  subst e
  cases r1
  rcases q with ⟨⟨xs, hq⟩, q⟩ | ⟨⟨xs, hq⟩, q⟩
  · obtain ⟨its, rv, p, hz⟩ := I1.list hq
    refine wpAny_pyIter_list p.isList ?_
    refine ⟨s1.heap.objs.size, [s1.heap.objs.size], _, _, H1, rfl, I1.kept (t' := s1.toks) fun b o e => Heap.get?_push_of_some _ e, turn_list a _, ⟨_, Heap.get?_push_size _ rfl, rfl, rfl⟩, fun b hb => ?_, q⟩
    have e : b = s1.heap.objs.size := by simpa using hb
    subst e
    exact I1.fpOk (Nat.le_refl _) (I1.hok.fresh (Nat.le_refl _))
  · obtain ⟨its, rv, p, hz⟩ := I1.tuple hq
    refine wpAny_pyIter_tuple (show s1.heap.IsTuple a its.toArray from p) ?_
    refine ⟨s1.heap.objs.size, [s1.heap.objs.size], _, _, H1, rfl, I1.kept (t' := s1.toks) fun b o e => Heap.get?_push_of_some _ e, turn_tuple a _, ⟨_, Heap.get?_push_size _ rfl, rfl, rfl⟩, fun b hb => ?_, q⟩
    have e : b = s1.heap.objs.size := by simpa using hb
    subst e
    exact I1.fpOk (Nat.le_refl _) (I1.hok.fresh (Nat.le_refl _))
end Sf
end

section
set_option Elab.async false
set_option maxRecDepth 100000
set_option linter.all false
/-! Sf6: for loops, comprehensions. -/
namespace Sf
open PySem PySem.Spec PyProof.Rows L2 RZ

theorem RV.re {K : PySem.W.Frag} {B1 ρ1 B2 ρ2 : List Addr} {H : Hp} (hB : ∀ a, a ∈ B2 ∨ a ∈ ρ2 → a ∈ B1 ∨ a ∈ ρ1) (hp : ∀ (n : Nat) (a : Addr), ρ1[n]? = some a → ρ2[n]? = some a) :
    ∀ {d : D} {v : V}, RV K B1 ρ1 H d v → RV K B2 ρ2 H d v := by
  have out : ∀ a, a ∉ B1 → a ∉ ρ1 → a ∉ B2 ∧ a ∉ ρ2 := fun a h1 h2 => ⟨fun z => (hB a (.inl z)).elim h1 h2, fun z => (hB a (.inr z)).elim h1 h2⟩
  intro d v h
  refine RV.rec (motive_1 := fun d v _ => RV K B2 ρ2 H d v) (motive_2 := fun ds vs _ => RVs K B2 ρ2 H ds vs) .non .bl .int .str (fun h _ ih => ?_) (fun h1 h2 h3 _ ih => ?_) (fun h _ ih => ?_) (fun h => .loc (hp _ _ h)) (fun h => .glob h) .nil (fun _ _ ih1 ih2 => .cons ih1 ih2) h
  · exact .tup ⟨(out _ h.1 h.2.1).1, (out _ h.1 h.2.1).2, h.2.2⟩ ih
  · exact .lst (out _ h1 h2).1 (out _ h1 h2).2 h3 ih
  · exact .scr (h.imp (fun h => ⟨(out _ h.1 h.2.1).1, (out _ h.1 h.2.1).2, h.2.2⟩) id) ih
theorem RVs.re {K : PySem.W.Frag} {B1 ρ1 B2 ρ2 : List Addr} {H : Hp} (hB : ∀ a, a ∈ B2 ∨ a ∈ ρ2 → a ∈ B1 ∨ a ∈ ρ1) (hp : ∀ (n : Nat) (a : Addr), ρ1[n]? = some a → ρ2[n]? = some a) :
    ∀ {ds : List D} {vs : List V}, RVs K B1 ρ1 H ds vs → RVs K B2 ρ2 H ds vs
  | _, _, .nil => .nil
  | _, _, .cons h t => .cons (h.re hB hp) (RVs.re hB hp t)
/-- an address that is avoided is written -/
theorem RV.av {K : PySem.W.Frag} {B ρ : List Addr} {H : Hp} {p : Addr} {o : HO} (hp : p ∈ B) : ∀ {d : D} {v : V}, RV K B ρ H d v → RV K B ρ (upd H p o) d v := by
  intro d v h
  have ne : ∀ a, a ∉ B → a ≠ p := fun a h z => h (z ▸ hp)
  refine RV.rec (motive_1 := fun d v _ => RV K B ρ (upd H p o) d v) (motive_2 := fun ds vs _ => RVs K B ρ (upd H p o) ds vs) .non .bl .int .str (fun h _ ih => ?_) (fun h1 h2 h3 _ ih => ?_) (fun h _ ih => ?_) (fun h => .loc h) (fun h => .glob h) .nil (fun _ _ ih1 ih2 => .cons ih1 ih2) h
  · exact .tup ⟨h.1, h.2.1, by rw [upd_ne (ne _ h.1)]; exact h.2.2⟩ ih
  · exact .lst h1 h2 (by rw [upd_ne (ne _ h1)]; exact h3) ih
  · refine .scr (h.imp (fun h => ⟨h.1, h.2.1, ?_⟩) id) ih
    unfold Rd; rw [upd_ne (ne _ h.1)]; exact h.2.2
theorem RVs.av {K : PySem.W.Frag} {B ρ : List Addr} {H : Hp} {p : Addr} {o : HO} (hp : p ∈ B) : ∀ {ds : List D} {vs : List V}, RVs K B ρ H ds vs → RVs K B ρ (upd H p o) ds vs
  | _, _, .nil => .nil
  | _, _, .cons h t => .cons (h.av hp) (RVs.av hp t)
/-- a new address is avoided -/
theorem RV.addB {K : PySem.W.Frag} {B ρ : List Addr} {H : Hp} {p : Addr} {o : HO} (hn : H p = none) : ∀ {d : D} {v : V}, RV K B ρ H d v → RV K (p :: B) ρ (upd H p o) d v := by
  intro d v h
  have ne : ∀ a u, H a = some u → a ≠ p := fun a u h => ne_of_none h hn
  have nb : ∀ a u, a ∉ B → H a = some u → a ∉ p :: B := fun a u h1 h2 z => (List.mem_cons.mp z).elim (ne a u h2) h1
  refine RV.rec (motive_1 := fun d v _ => RV K (p :: B) ρ (upd H p o) d v) (motive_2 := fun ds vs _ => RVs K (p :: B) ρ (upd H p o) ds vs) .non .bl .int .str (fun h _ ih => ?_) (fun h1 h2 h3 _ ih => ?_) (fun h _ ih => ?_) (fun h => .loc h) (fun h => .glob h) .nil (fun _ _ ih1 ih2 => .cons ih1 ih2) h
  · exact .tup ⟨nb _ _ h.1 h.2.2, h.2.1, by rw [upd_ne (ne _ _ h.2.2)]; exact h.2.2⟩ ih
  · exact .lst (nb _ _ h1 h3) h2 (by rw [upd_ne (ne _ _ h3)]; exact h3) ih
  · refine .scr (h.imp (fun h => ?_) id) ih
    rcases h.2.2 with z | ⟨ob, z⟩
    · exact ⟨nb _ _ h.1 z, h.2.1, .inl (by rw [upd_ne (ne _ _ z)]; exact z)⟩
    · exact ⟨nb _ _ h.1 z, h.2.1, .inr ⟨ob, by rw [upd_ne (ne _ _ z)]; exact z⟩⟩
theorem RVs.addB {K : PySem.W.Frag} {B ρ : List Addr} {H : Hp} {p : Addr} {o : HO} (hn : H p = none) : ∀ {ds : List D} {vs : List V}, RVs K B ρ H ds vs → RVs K (p :: B) ρ (upd H p o) ds vs
  | _, _, .nil => .nil
  | _, _, .cons h t => .cons (h.addB hn) (RVs.addB hn t)

/-! ### what a walk gives -/
structure WalkOk (G : Pg) (L : List Addr) (J : It) (l : List D) (I : List Addr → List Addr → Hp → Prop) : Prop where
  mono : ∀ (B ρ ρ' : List Addr) (H H' : Hp), Post L ρ H ρ' H' → I B ρ H → I B ρ' H'
  addB : ∀ (B ρ : List Addr) (H : Hp) (p : Addr) (o : HO), H p = none → I B ρ H → I (p :: B) ρ (upd H p o)
  av : ∀ (B ρ : List Addr) (H : Hp) (p : Addr) (o : HO), p ∈ B → I B ρ H → I B ρ (upd H p o)
  stop : ∀ (B ρ : List Addr) (H : Hp), I B ρ H → J.stop l.length H
  go : ∀ (B ρ : List Addr) (H : Hp) (i : Nat), I B ρ H → i < l.length → J.go i H
  yld : ∀ (B ρ : List Addr) (S : Sto) (H H' : Hp) (i : Nat) (d : D) (x : V), I B ρ H → RH G B L ρ H S → l[i]? = some d → J.yld i H x H' → Post L ρ H ρ H' ∧ RH G B L ρ H' S ∧ RV G.K B ρ H' d x
abbrev rJ (G : Pg) (B L : List Addr) : List Addr → Hp → List D → It → Prop := fun ρ H l J => ∃ I, WalkOk G L J l I ∧ I B ρ H
def tI (G : Pg) (W : WX) (xm : XM) (f : FA) : TI := fun σ H R => ∃ B L ρ S env, At G B L ρ S env σ H ∧ GO G W xm B L ρ H σ (rJ G B L) (f env S) R
theorem PI.imp {X : Cx} {tg e : Expr} {t t' : TI} (h : PI X tg e t) (i : ∀ σ H Q, t' σ H Q → t σ H Q) : PI X tg e t' := ⟨fun pins s σ H Q I q => h.run pins s σ H Q I (i σ H Q q)⟩
abbrev SI (X : Cx) (w : Wx) (tg e : Expr) (f : FA) : Prop := PI X tg e (tI (pg X) w.W w.xm f)
def itemsD : D → Option (List D)
  | .tup l => some l
  | .lst l => some l
  | .scr l => some l
  | _ => none
def iSq (a : FE) : FA := fun env S => (a env S).bind fun x S1 => match itemsD x with
  | some l => .ok l S1
  | none => .bad
def rngL (lo : Int) : Nat → List D
  | 0 => []
  | n + 1 => .int lo :: rngL (lo + 1) n
def smallI (i : Int) : Bool := decide (-1000000000000 ≤ i) && decide (i ≤ 1000000000000)
def iRng (a : FE) : FA := fun env S => (a env S).bind fun x S1 => match x with
  | .int j => bif smallI j then .ok (rngL 0 j.toNat) S1 else .bad
  | _ => .bad
def iRngB (a b : FE) : FA := fun env S => (a env S).bind fun x S1 => (b env S1).bind fun y S2 => match x, y with
  | .int i, .int j => bif smallI i && smallI j then .ok (rngL i (j - i).toNat) S2 else .bad
  | _, _ => .bad
def enumL (k : Nat) : List D → List D
  | [] => []
  | d :: r => .tup [.int k, d] :: enumL (k + 1) r
def iEnumF (a : FE) : FA := fun env S => (a env S).bind fun x S1 => match x with
  | .tup l => .ok (enumL 0 l) S1
  | _ => .bad
def zipL : List D → List D → List D
  | a :: as, b :: bs => .tup [a, b] :: zipL as bs
  | _, _ => []
def iZipF (a b : FE) : FA := fun env S => (a env S).bind fun x S1 => (b env S1).bind fun y S2 => match x, y with
  | .tup l, .tup m => .ok (zipL l m) S2
  | _, _ => .bad
theorem rngL_len (lo : Int) (n : Nat) : (rngL lo n).length = n := by
  induction n generalizing lo with
  | zero => rfl
  | succ n ih => unfold rngL; rw [List.length_cons, ih]
theorem rngL_get {lo : Int} {n i : Nat} {d : D} (h : (rngL lo n)[i]? = some d) : d = .int (lo + i) := by
  induction n generalizing lo i with
  | zero => simp [rngL] at h
  | succ n ih =>
    unfold rngL at h
    cases i with
    | zero => simp at h; rw [← h]; simp
    | succ i => rw [ih (by simpa using h)]; congr 1; omega
theorem enumL_len (k : Nat) (l : List D) : (enumL k l).length = l.length := by
  induction l generalizing k with
  | nil => rfl
  | cons d r ih => unfold enumL; rw [List.length_cons, List.length_cons, ih]
theorem enumL_get {k i : Nat} {l : List D} {d : D} (h : (enumL k l)[i]? = some d) : ∃ e, l[i]? = some e ∧ d = .tup [.int ((k + i : Nat) : Int), e] := by
  induction l generalizing k i with
  | nil => simp [enumL] at h
  | cons a r ih =>
    unfold enumL at h
    cases i with
    | zero => simp at h; exact ⟨a, by simp, by rw [← h]; rfl⟩
    | succ i =>
      obtain ⟨e, h1, h2⟩ := ih (by simpa using h)
      exact ⟨e, by simpa using h1, by rw [h2]; congr 3; omega⟩
theorem zipL_len (l m : List D) : (zipL l m).length = min l.length m.length := by
  induction l generalizing m with
  | nil => simp [zipL]
  | cons d r ih =>
    cases m with
    | nil => simp [zipL]
    | cons e s => unfold zipL; rw [List.length_cons, ih, List.length_cons, List.length_cons]; omega
theorem zipL_get {i : Nat} {l m : List D} {d : D} (h : (zipL l m)[i]? = some d) : ∃ e f, l[i]? = some e ∧ m[i]? = some f ∧ d = .tup [e, f] := by
  induction l generalizing m i with
  | nil => simp [zipL] at h
  | cons a r ih =>
    cases m with
    | nil => simp [zipL] at h
    | cons b s =>
      unfold zipL at h
      cases i with
      | zero => simp at h; exact ⟨a, b, by simp, by simp, h.symm⟩
      | succ i => simpa using ih (by simpa using h)
section
variable {G : Pg} {L : List Addr}
/-- a list that stands still -/
theorem ScrAt.addB {K : PySem.W.Frag} {B ρ : List Addr} {H : Hp} {a p : Addr} {o : HO} {vs : List V} (hn : H p = none) (h : ScrAt K B ρ H a vs) : ScrAt K (p :: B) ρ (upd H p o) a vs := h.imp (fun h => by
  rcases h.2.2 with z | ⟨ob, z⟩
  · exact ⟨fun q => (List.mem_cons.mp q).elim (ne_of_none z hn) h.1, h.2.1, .inl (by rw [upd_ne (ne_of_none z hn)]; exact z)⟩
  · exact ⟨fun q => (List.mem_cons.mp q).elim (ne_of_none z hn) h.1, h.2.1, .inr ⟨ob, by rw [upd_ne (ne_of_none z hn)]; exact z⟩⟩) id
theorem walk_scr {a : Addr} {vs : List V} {l : List D} : WalkOk G L (Itl G.K a) l (fun B ρ H => ScrAt G.K B ρ H a vs ∧ RVs G.K B ρ H l vs) where
  mono := fun B ρ ρ' H H' p ⟨h, r⟩ => ⟨h.imp (fun h => ⟨h.1, p.outR h.2.1 h.2.2, p.rd h.2.1 h.2.2⟩) id, RVs.mono p _ _ r⟩
  addB := fun B ρ H p o hn ⟨h, r⟩ => ⟨h.addB hn, r.addB hn⟩
  av := fun B ρ H p o hp ⟨h, r⟩ => ⟨h.imp (fun h => ⟨h.1, h.2.1, by unfold Rd; rw [upd_ne (by rintro rfl; exact h.1 hp)]; exact h.2.2⟩) id, r.av hp⟩
  stop := fun B ρ H ⟨h, r⟩ => ⟨vs, h.sq, Nat.le_of_eq r.length.symm⟩
  go := fun B ρ H i ⟨h, r⟩ hi => by
    obtain ⟨v, e, _⟩ := r.get (List.getElem?_eq_getElem hi)
    exact ⟨vs, v, h.sq, e⟩
  yld := fun B ρ S H H' i d x ⟨h, r⟩ R hd ⟨e, y⟩ => by
    subst e
    obtain ⟨v, e, rv⟩ := r.get hd
    have := y vs h.sq
    rw [e] at this; cases this
    exact ⟨Post.refl, R, rv⟩
theorem walk_tup {a : Addr} {vs : List V} {l : List D} : WalkOk G L (Itt G.K a) l (fun B ρ H => TupAt B ρ H a vs ∧ RVs G.K B ρ H l vs) where
  mono := fun B ρ ρ' H H' p ⟨h, r⟩ => ⟨⟨h.1, p.out h.2.1 h.2.2, p.ext _ _ (.inl h.2.1) h.2.2⟩, RVs.mono p _ _ r⟩
  addB := fun B ρ H p o hn ⟨h, r⟩ => ⟨⟨fun z => (List.mem_cons.mp z).elim (ne_of_none h.2.2 hn) h.1, h.2.1, by rw [upd_ne (ne_of_none h.2.2 hn)]; exact h.2.2⟩, r.addB hn⟩
  av := fun B ρ H p o hp ⟨h, r⟩ => ⟨⟨h.1, h.2.1, by rw [upd_ne (by rintro rfl; exact h.1 hp)]; exact h.2.2⟩, r.av hp⟩
  stop := fun B ρ H ⟨h, r⟩ => ⟨vs, h.sq, Nat.le_of_eq r.length.symm⟩
  go := fun B ρ H i ⟨h, r⟩ hi => by
    obtain ⟨v, e, _⟩ := r.get (List.getElem?_eq_getElem hi)
    exact ⟨vs, v, h.sq, e⟩
  yld := fun B ρ S H H' i d x ⟨h, r⟩ R hd ⟨e, y⟩ => by
    subst e
    obtain ⟨v, e, rv⟩ := r.get hd
    have := y vs h.sq
    rw [e] at this; cases this
    exact ⟨Post.refl, R, rv⟩
theorem walk_rng {lo : Int} {n : Nat} : WalkOk G L (Itr lo n) (rngL lo n) (fun _ _ _ => True) where
  mono := fun _ _ _ _ _ _ _ => trivial
  addB := fun _ _ _ _ _ _ _ => trivial
  av := fun _ _ _ _ _ _ _ => trivial
  stop := fun _ _ _ _ => by rw [rngL_len]; exact Nat.le_refl _
  go := fun _ _ _ i _ hi => by rw [rngL_len] at hi; exact hi
  yld := fun B ρ S H H' i d x _ R hd ⟨e, y⟩ => by
    subst e y
    rw [rngL_get hd]
    exact ⟨Post.refl, R, .int _⟩
theorem walk_enum {a : Addr} {vs : List V} {l : List D} : WalkOk G L (IteT G.K a) (enumL 0 l) (fun B ρ H => TupAt B ρ H a vs ∧ RVs G.K B ρ H l vs) where
  mono := (walk_tup (G := G) (L := L)).mono
  addB := (walk_tup (G := G) (L := L)).addB
  av := (walk_tup (G := G) (L := L)).av
  stop := fun B ρ H ⟨h, r⟩ => ⟨vs, h.sq, by rw [enumL_len]; exact r.length.symm⟩
  go := fun B ρ H i ⟨h, r⟩ hi => by
    rw [enumL_len] at hi
    obtain ⟨v, e, _⟩ := r.get (List.getElem?_eq_getElem hi)
    exact ⟨vs, v, h.sq, e⟩
  yld := fun B ρ S H H' i d x ⟨h, r⟩ R hd ⟨T, v, e1, hn, e2, y⟩ => by
    subst e1 e2
    obtain ⟨e, he, rfl⟩ := enumL_get hd
    obtain ⟨v', e3, rv⟩ := r.get he
    have := y vs h.sq
    rw [e3] at this; cases this
    refine ⟨Post.newV hn, R.newV hn, .tup ⟨(R.fresh hn).2, (R.fresh hn).1, upd_same⟩ (.cons ?_ (.cons (rv.mono (Post.newV (L := L) hn)) .nil))⟩
    rw [Nat.zero_add]; exact .int _
theorem walk_zip {a b : Addr} {vs ws : List V} {l m : List D} : WalkOk G L (ItzT G.K a b) (zipL l m) (fun B ρ H => (TupAt B ρ H a vs ∧ RVs G.K B ρ H l vs) ∧ TupAt B ρ H b ws ∧ RVs G.K B ρ H m ws) where
  mono := fun B ρ ρ' H H' p ⟨h, h'⟩ => ⟨(walk_tup (G := G) (L := L)).mono B ρ ρ' H H' p h, (walk_tup (G := G) (L := L)).mono B ρ ρ' H H' p h'⟩
  addB := fun B ρ H p o hn ⟨h, h'⟩ => ⟨(walk_tup (G := G) (L := L)).addB B ρ H p o hn h, (walk_tup (G := G) (L := L)).addB B ρ H p o hn h'⟩
  av := fun B ρ H p o hp ⟨h, h'⟩ => ⟨(walk_tup (G := G) (L := L)).av B ρ H p o hp h, (walk_tup (G := G) (L := L)).av B ρ H p o hp h'⟩
  stop := fun B ρ H ⟨⟨h, r⟩, ⟨h', r'⟩⟩ => ⟨vs, ws, h.sq, h'.sq, by rw [zipL_len, ← r.length, ← r'.length]; omega⟩
  go := fun B ρ H i ⟨⟨h, r⟩, ⟨h', r'⟩⟩ hi => by
    rw [zipL_len] at hi
    obtain ⟨v, e, _⟩ := r.get (List.getElem?_eq_getElem (show i < l.length by omega))
    obtain ⟨v', e', _⟩ := r'.get (List.getElem?_eq_getElem (show i < m.length by omega))
    exact ⟨vs, ws, v, v', h.sq, h'.sq, e, e'⟩
  yld := fun B ρ S H H' i d x ⟨⟨h, r⟩, ⟨h', r'⟩⟩ R hd ⟨T, v, v', e1, hn, e2, y, y'⟩ => by
    subst e1 e2
    obtain ⟨e, f, he, hf, rfl⟩ := zipL_get hd
    obtain ⟨w1, e3, rv⟩ := r.get he
    obtain ⟨w2, e4, rv'⟩ := r'.get hf
    have z1 := y vs h.sq
    have z2 := y' ws h'.sq
    rw [e3] at z1; cases z1
    rw [e4] at z2; cases z2
    exact ⟨Post.newV hn, R.newV hn, .tup ⟨(R.fresh hn).2, (R.fresh hn).1, upd_same⟩ (.cons (rv.mono (Post.newV (L := L) hn)) (.cons (rv'.mono (Post.newV (L := L) hn)) .nil))⟩
end

section
variable {G : Pg} {W : WX} {xm : XM} {f fa fb : FE} {fs : FA}
theorem tE_bindL {α β : Type} {rel : List Addr → List Addr → List Addr → Hp → α → β → Prop} {B L ρ S env σ H} {k : D → Sto → Out α} {Q : β → Hp → Prop} (A : At G B L ρ S env σ H) (g : GO G W xm B L ρ H σ (rel B L) ((f env S).bind k) Q) :
    tE G W xm f σ H fun x H1 => ∃ B L ρ S d, At G B L ρ S env σ H1 ∧ RV G.K B ρ H1 d x ∧ GO G W xm B L ρ H1 σ (rel B L) (k d S) Q := by
  refine ⟨B, L, ρ, S, env, A, ?_⟩
  revert g
  cases f env S with
  | ok d S' => exact fun g v ρ' H' p R r => ⟨B, L, ρ', S', d, A.step p R, r, GO.step g p⟩
  | exc c S' => exact fun g => g
  | bad => exact fun g => g
theorem tA_bindL {α β : Type} {rel : List Addr → List Addr → List Addr → Hp → α → β → Prop} {B L ρ S env σ H} {k : List D → Sto → Out α} {Q : β → Hp → Prop} (A : At G B L ρ S env σ H) (g : GO G W xm B L ρ H σ (rel B L) ((fs env S).bind k) Q) :
    tA G W xm fs σ H fun x H1 => ∃ B L ρ S d, At G B L ρ S env σ H1 ∧ RVs G.K B ρ H1 d x ∧ GO G W xm B L ρ H1 σ (rel B L) (k d S) Q := by
  refine ⟨B, L, ρ, S, env, A, ?_⟩
  revert g
  cases fs env S with
  | ok d S' => exact fun g v ρ' H' p R r => ⟨B, L, ρ', S', d, A.step p R, r, GO.step g p⟩
  | exc c S' => exact fun g => g
  | bad => exact fun g => g
end
section
variable {X : Cx} {w : Wx} {tg e e2 : Expr} {fe fe2 : FE} {fs : FA} {p pos tpos : Pos} {elts : List Expr} {kk : Nat}
theorem si_seq (he : SE X w e fe) : SI X w tg e (iSq fe) := PI.imp (pi_seq he) fun σ H R ⟨B, L, ρ, S, env, A, g⟩ =>
  tE_mono (tE_bindL (rel := rJ (pg X)) A g) fun x H1 ⟨B, L, ρ, S, d, A, r, g⟩ => by
    cases r with
    | tup h r => exact ⟨_, rfl, .inr ⟨⟨_, h.sq⟩, GO.ok0 g A ⟨_, walk_tup, h, r⟩⟩⟩
    | lst h1 h2 h3 r => exact ⟨_, rfl, .inl ⟨⟨_, .inl (.inl h3)⟩, GO.ok0 g A ⟨_, walk_scr, .inl ⟨h1, h2, .inl h3⟩, r⟩⟩⟩
    | scr h r => exact ⟨_, rfl, .inl ⟨⟨_, h.sq⟩, GO.ok0 g A ⟨_, walk_scr, h, r⟩⟩⟩
    | _ => exact g.elim
def oneA (fe : FE) : FA := fCons fe fNil
theorem smallI_ok {i : Int} (h : smallI i = true) : -(2 ^ 62) ≤ i ∧ i < 2 ^ 62 := by
  unfold smallI at h
  rw [Bool.and_eq_true] at h
  have h1 := of_decide_eq_true h.1
  have h2 := of_decide_eq_true h.2
  omega
def iOf (k : List D → Option (List D)) (fs : FA) : FA := fun env S => (fs env S).bind fun xs S1 => match k xs with
  | some l => .ok l S1
  | none => .bad
def kRng1 : List D → Option (List D)
  | [.int j] => bif smallI j then some (rngL 0 j.toNat) else none
  | _ => none
def kRng2 : List D → Option (List D)
  | [.int i, .int j] => bif smallI i && smallI j then some (rngL i (j - i).toNat) else none
  | _ => none
def kEnum : List D → Option (List D)
  | [.tup l] => some (enumL 0 l)
  | _ => none
def kZip : List D → Option (List D)
  | [.tup l, .tup m] => some (zipL l m)
  | _ => none
theorem go_iOf {k : List D → Option (List D)} {σ : L2.St} {H : Hp} {R : It → Hp → Prop} (h : tI (pg X) w.W w.xm (iOf k fs) σ H R) :
    tA (pg X) w.W w.xm fs σ H fun x H1 => ∃ B L ρ S d l, RVs X.K B ρ H1 d x ∧ k d = some l ∧ RH (pg X) B L ρ H1 S ∧ ∀ J, rJ (pg X) B L ρ H1 l J → R J H1 := by
  obtain ⟨B, L, ρ, S, env, A, g⟩ := h
  refine tA_mono (tA_bindL (rel := rJ (pg X)) A g) fun x H1 ⟨B, L, ρ, S, d, A, r, g⟩ => ?_
  cases e : k d with
  | none => rw [e] at g; exact g.elim
  | some l => rw [e] at g; exact ⟨B, L, ρ, S, d, l, r, e, A.rh, fun J hJ => g J ρ H1 Post.refl A.rh hJ⟩
theorem si_range1 (ha : SA X w [e] fs) (hg : Gl X "range") (hm : X.mg "range" = none) (hs : starEach [e] X.env = [(false, eval e X.env)] := by rfl) : SI X w tg (.Call (.Name "range" p) [e] [] pos) (iOf kRng1 fs) :=
  PI.imp (pi_range1 hg hm ha hs) fun σ H R h => tA_mono (go_iOf h) fun x H1 ⟨B, L, ρ, S, d, l, r, hk, hR, q⟩ => by
    match d, r, hk with
    | [.int j], .cons (.int _) .nil, hk =>
      unfold kRng1 at hk
      simp only at hk
      cases hs : smallI j with
      | false => rw [hs] at hk; cases hk
      | true =>
        rw [hs] at hk; cases hk
        obtain ⟨h1, h2⟩ := smallI_ok hs
        exact ⟨j, rfl, h1, h2, q _ ⟨_, walk_rng, trivial⟩⟩
theorem si_range2 {b : Expr} (ha : SA X w [e, b] fs) (hg : Gl X "range") (hm : X.mg "range" = none) (hs : starEach [e, b] X.env = [(false, eval e X.env), (false, eval b X.env)] := by rfl) (hs2 : starEach [b] X.env = [(false, eval b X.env)] := by rfl) : SI X w tg (.Call (.Name "range" p) [e, b] [] pos) (iOf kRng2 fs) :=
  PI.imp (pi_range2 hg hm ha hs hs2) fun σ H R h => tA_mono (go_iOf h) fun x H1 ⟨B, L, ρ, S, d, l, r, hk, hR, q⟩ => by
    match d, r, hk with
    | [.int i, .int j], .cons (.int _) (.cons (.int _) .nil), hk =>
      unfold kRng2 at hk
      simp only at hk
      cases hs : smallI i && smallI j with
      | false => rw [hs] at hk; cases hk
      | true =>
        rw [hs] at hk; cases hk
        rw [Bool.and_eq_true] at hs
        obtain ⟨h1, h2⟩ := smallI_ok hs.1
        obtain ⟨h3, h4⟩ := smallI_ok hs.2
        exact ⟨i, j, rfl, ⟨h1, h2, h3, h4⟩, q _ ⟨_, walk_rng, trivial⟩⟩
theorem si_enum (ha : SA X w [e] fs) (hg : Gl X "enumerate") (hm : X.mg "enumerate" = none) (hs : starEach [e] X.env = [(false, eval e X.env)] := by rfl) : SI X w (.Tuple elts kk tpos) (.Call (.Name "enumerate" p) [e] [] pos) (iOf kEnum fs) :=
  PI.imp (pi_enumT hg hm ha hs) fun σ H R h => tA_mono (go_iOf h) fun x H1 ⟨B, L, ρ, S, d, l, r, hk, hR, q⟩ => by
    match d, r, hk with
    | [.tup l], .cons (.tup h r) .nil, hk => cases hk; exact ⟨_, _, rfl, h.sq, q _ ⟨_, walk_enum, h, r⟩⟩
theorem si_zip (ha : SA X w [e, e2] fs) (hg : Gl X "zip") (hm : X.mg "zip" = none) (hs : starEach [e, e2] X.env = (false, eval e X.env) :: starEach [e2] X.env := by rfl) (hpl : (backTo pos (starEach [e2] X.env)).any (·.1) = false := by rfl) :
    SI X w (.Tuple elts kk tpos) (.Call (.Name "zip" p) [e, e2] [] pos) (iOf kZip fs) :=
  PI.imp (pi_zipA hg hm ha hs hpl) fun σ H R h => tA_mono (go_iOf h) fun x H1 ⟨B, L, ρ, S, d, l, r, hk, hR, q⟩ => by
    match d, r, hk with
    | [.tup l, .tup m], .cons (.tup h r) (.cons (.tup h' r') .nil), hk => cases hk; exact ⟨_, _, _, _, rfl, .inr ⟨h.sq, h'.sq, q _ ⟨_, walk_zip, ⟨h, r⟩, h', r'⟩⟩⟩
end

/-! ### for -/
def forL (g : D → En → Option En) (b : FS) : List D → FS
  | [] => fun env S => .nx env S
  | d :: r => fun env S => match g d env with
    | none => .bad
    | some env1 => match b env1 S with
      | .nx env' S' => forL g b r env' S'
      | .ct env' S' => forL g b r env' S'
      | .bk env' S' => .nx env' S'
      | r => r
def sFor (f : FA) (g : D → En → Option En) (b : FS) : FS := fun env S => (f env S).bindS fun l S1 => forL g b l env S1
section
variable {X : Cx} {w : Wx} {tg iter : Expr} {body : List Stmt} {fi : FA} {g : D → En → Option En} {t : TG} {is : List Nat} {f : FS} {pos : Pos}
theorem ss_for (hp : PassesOwn (model X.prog X.w) X.A X.env X.xe) (hc : X.calm = true) (hi : SI X w tg iter fi) (hg : SG X tg t g is) (hb : SSs X w body f) (hs : ∀ x, foldedSetIterable iter X.env x = pure x := by intro _; rfl) :
    SS X w (.For tg iter body [] pos) (sFor fi g f) := PS.imp (ps_for hp hc hi hg.pg hb hs) fun D σ H ⟨B, L, ρ, S, env, A, gg⟩ => by
  refine ⟨B, L, ρ, S, env, A, ?_⟩
  revert gg
  unfold sFor
  cases fi env S with
  | exc c S' => exact fun g => g σ
  | bad => exact fun g => g
  | ok l S' =>
    rintro gg J ρ1 H1 p R ⟨I, wk, i0⟩
    have g1 : GS (pg X) w.W w.xm B L ρ1 H1 (forL g f l env S') D := GS.step gg p
    refine ⟨fun i m σ H => ∃ ρ S env, At (pg X) B L ρ S env σ H ∧ I B ρ H ∧ i ≤ l.length ∧ m = l.length - i ∧ GS (pg X) w.W w.xm B L ρ H (forL g f (l.drop i) env S) D, ⟨l.length, ρ1, S', env, A.step p R, i0, Nat.zero_le _, rfl, g1⟩, ?_⟩
    rintro i m σ2 H2 ⟨ρ2, S2, env2, A2, i2, hle, rfl, g2⟩
    by_cases hlt : i < l.length
    · refine .inr ⟨wk.go B ρ2 H2 i i2 hlt, fun σ H => ∃ ρ S env, At (pg X) B L ρ S env σ H ∧ I B ρ H ∧ GS (pg X) w.W w.xm B L ρ H (forL g f (l.drop (i + 1)) env S) D, fun σ' H' ⟨ρ, S, env, A, i', g'⟩ => ⟨l.length - (i + 1), by omega, ρ, S, env, A, i', hlt, rfl, g'⟩, ?_⟩
      intro x H3 y
      obtain ⟨p3, R3, r3⟩ := wk.yld B ρ2 S2 H2 H3 i l[i] x i2 A2.rh (List.getElem?_eq_getElem hlt) y
      rw [List.drop_eq_getElem_cons hlt] at g2
      unfold forL at g2
      cases hu : g l[i] env2 with
      | none => rw [hu] at g2; exact g2.elim
      | some env3 =>
        rw [hu] at g2
        refine hg.ok B L ρ2 H3 l[i] x env2 env3 σ2 _ r3 (A2.re.mono p3) hu fun σ3 re3 _ => ?_
        refine ⟨B, L, ρ2, S2, env3, ⟨R3, re3⟩, ?_⟩
        have g3 := GS.step g2 p3
        have i3 := wk.mono B ρ2 ρ2 H2 H3 p3 i2
        revert g3
        simp only
        cases f env3 S2 with
        | nx env' S' => exact fun g σ' ρ' H' p R re => ⟨ρ', S', env', ⟨R, re⟩, wk.mono B ρ2 ρ' H3 H' p i3, GS.step g p⟩
        | ct env' S' => exact fun g σ' ρ' H' p R re => ⟨ρ', S', env', ⟨R, re⟩, wk.mono B ρ2 ρ' H3 H' p i3, GS.step g p⟩
        | bk e S' => exact fun g => g
        | rt e S' => exact fun g => g
        | xc c S' => exact fun g => g
        | bad => exact fun g => g
    · have hi : i = l.length := by omega
      subst hi
      rw [List.drop_length] at g2
      exact .inl ⟨wk.stop B ρ2 H2 i2, GS.nx0 g2 A2.rh A2.re⟩
end

/-! ### comprehensions -/
def compL (g : D → En → Option En) (t : FT) (e : FE) (env : En) : List D → Sto → Out (List D)
  | [], S => .ok [] S
  | d :: r, S => match g d env with
    | none => .bad
    | some env1 => match t env1 S with
      | .ok true S1 => match e env1 S1 with
        | .ok x S2 => match compL g t e env r S2 with
          | .ok xs S3 => .ok (x :: xs) S3
          | _ => .bad
        | _ => .bad
      | .ok false S1 => compL g t e env r S1
      | _ => .bad
def tYesF : FT := fun _ S => .ok true S
/-- the list that stands at last: a value, or an object of the store -/
def fComp (m : Bool) (f : FA) (g : D → En → Option En) (t : FT) (e : FE) (vs : List Nat) : FE := fun env S => (f env S).bind fun l S1 => bif fit l.length then
  (match compL g t e (undE env vs) l S1 with
  | .ok xs S2 => bif m then .ok (.loc S2.length) (S2 ++ [.lst xs]) else .ok (.lst xs) S2
  | _ => .bad) else .bad
theorem RO.re {G : Pg} {B1 ρ1 B2 ρ2 L : List Addr} {H : Hp} (hB : ∀ a, a ∈ B2 ∨ a ∈ ρ2 → a ∈ B1 ∨ a ∈ ρ1) (hp : ∀ (n : Nat) (a : Addr), ρ1[n]? = some a → ρ2[n]? = some a) {a : Addr} {o : Ob} (h : RO G B1 L ρ1 H a o) : RO G B2 L ρ2 H a o := by
  cases o with
  | lst ds => obtain ⟨vs, e, r⟩ := h; exact ⟨vs, e, r.re hB hp⟩
  | dct lk kvs =>
    obtain ⟨ents, e, r⟩ := h
    refine ⟨ents, e, ?_⟩
    clear e; induction r with
    | nil => exact .nil
    | cons h1 h2 h3 h4 _ ih => exact .cons h1 (h2.re hB hp) h3 (h4.re hB hp) ih
  | dki lk kvs =>
    obtain ⟨ents, e, r⟩ := h
    refine ⟨ents, e, ?_⟩
    clear e; induction r with
    | nil => exact .nil
    | cons h4 _ ih => exact .cons (h4.re hB hp) ih
  | ins fs =>
    obtain ⟨C, d, ents, hb, e, r⟩ := h
    refine ⟨C, d, ents, hb, e, ?_⟩
    clear e; induction r with
    | nil => exact .nil
    | cons h4 _ ih => exact .cons (h4.re hB hp) ih
/-- an address that is avoided is written: the object stays -/
theorem RO.av {G : Pg} {B ρ L : List Addr} {H : Hp} {p : Addr} {u : HO} (hp : p ∈ B) {a : Addr} {o : Ob} (hne : a ≠ p) (h : RO G B L ρ H a o) : RO G B L ρ (upd H p u) a o := by
  cases o with
  | lst ds => obtain ⟨vs, e, r⟩ := h; exact ⟨vs, by rw [upd_ne hne]; exact e, r.av hp⟩
  | dct lk kvs =>
    obtain ⟨ents, e, r⟩ := h
    refine ⟨ents, by unfold LkAt at e ⊢; rw [upd_ne hne]; exact e, ?_⟩
    clear e; induction r with
    | nil => exact .nil
    | cons h1 h2 h3 h4 _ ih => exact .cons h1 (h2.av hp) h3 (h4.av hp) ih
  | dki lk kvs =>
    obtain ⟨ents, e, r⟩ := h
    refine ⟨ents, by unfold LkAt at e ⊢; rw [upd_ne hne]; exact e, ?_⟩
    clear e; induction r with
    | nil => exact .nil
    | cons h4 _ ih => exact .cons (h4.av hp) ih
  | ins fs =>
    obtain ⟨C, d, ents, hb, e, r⟩ := h
    refine ⟨C, d, ents, hb, by rw [upd_ne hne]; exact e, ?_⟩
    clear e; induction r with
    | nil => exact .nil
    | cons h4 _ ih => exact .cons (h4.av hp) ih
theorem RH.av {G : Pg} {B ρ L : List Addr} {H : Hp} {S : Sto} {p : Addr} {u : HO} (R : RH G B L ρ H S) (hp : p ∈ B) (hl : p ∉ L) : RH G B L ρ (upd H p u) S where
  len := R.len
  nd := R.nd
  dj := R.dj
  avo := fun b hb => by
    by_cases e : b = p
    · subst e; exact ⟨_, upd_same⟩
    · obtain ⟨u, q⟩ := R.avo b hb; exact ⟨u, by rw [upd_ne e]; exact q⟩
  lk := fun b hb => by
    obtain ⟨o, u, q⟩ := R.lk b hb
    exact ⟨o, u, by rw [upd_ne (by rintro rfl; exact hl hb)]; exact q⟩
  ob := fun n a o h1 h2 => (R.ob n a o h1 h2).av hp (by rintro rfl; exact R.dj _ (List.mem_of_getElem? h1) hp)
theorem RH.reB {G : Pg} {B B' ρ L : List Addr} {H : Hp} {S : Sto} (R : RH G B L ρ H S) (h : ∀ a, a ∈ B' → a ∈ B) : RH G B' L ρ H S where
  len := R.len
  nd := R.nd
  dj := fun a ha z => R.dj a ha (h a z)
  avo := fun b hb => R.avo b (h b hb)
  lk := R.lk
  ob := fun n a o h1 h2 => (R.ob n a o h1 h2).re (fun a z => z.imp (h a) id) fun _ _ z => z
/-- a list that was avoided comes into the store -/
theorem RH.addL {G : Pg} {B ρ L : List Addr} {H : Hp} {S : Sto} {p : Addr} {xs : List D} {vs : List V} (R : RH G (p :: B) L ρ H S) (hb : p ∉ B) (e : H p = some (.lst vs)) (r : RVs G.K (p :: B) ρ H xs vs) : RH G B L (ρ ++ [p]) H (S ++ [.lst xs]) := by
  have hB : ∀ a, a ∈ B ∨ a ∈ ρ ++ [p] → a ∈ p :: B ∨ a ∈ ρ := fun a z => z.elim (fun z => .inl (List.mem_cons_of_mem _ z)) fun z => (List.mem_append.mp z).elim .inr fun z => .inl (by simp at z; rw [z]; exact List.mem_cons_self)
  have hp : ∀ (n : Nat) (a : Addr), ρ[n]? = some a → (ρ ++ [p])[n]? = some a := fun n a z => by rw [List.getElem?_append_left (List.getElem?_eq_some_iff.mp z).1]; exact z
  refine ⟨by simp [R.len], ?_, fun a ha => (List.mem_append.mp ha).elim (fun z q => R.dj a z (List.mem_cons_of_mem _ q)) fun z => by simp at z; rw [z]; exact hb, fun b hb => R.avo b (List.mem_cons_of_mem _ hb), R.lk, fun n a o h1 h2 => ?_⟩
  · rw [List.nodup_append]
    refine ⟨R.nd, by simp, fun a ha b hb => ?_⟩
    simp at hb; subst hb
    rintro rfl
    exact R.dj _ ha List.mem_cons_self
  · by_cases hn : n < ρ.length
    · rw [List.getElem?_append_left hn] at h1
      rw [List.getElem?_append_left (by rw [← R.len]; exact hn)] at h2
      exact (R.ob n a o h1 h2).re hB hp
    · have hn' : n = ρ.length := by
        have := (List.getElem?_eq_some_iff.mp h1).1
        simp at this; omega
      subst hn'
      rw [List.getElem?_append_right (Nat.le_refl _)] at h1
      rw [R.len, List.getElem?_append_right (Nat.le_refl _)] at h2
      simp at h1 h2
      subst h1; subst h2
      exact ⟨vs, e, r.re hB hp⟩
theorem RH.addB {G : Pg} {B ρ L : List Addr} {H : Hp} {S : Sto} {p : Addr} {u : HO} (R : RH G B L ρ H S) (hn : H p = none) : RH G (p :: B) L ρ (upd H p u) S := by
  have q := R.newV (o := u) hn
  refine ⟨q.len, q.nd, fun a ha z => (List.mem_cons.mp z).elim (fun z => (R.fresh hn).1 (z ▸ ha)) (q.dj a ha), fun b hb => (List.mem_cons.mp hb).elim (fun z => ⟨u, by subst z; exact upd_same⟩) (q.avo b), q.lk, fun n a o h1 h2 => ?_⟩
  have q1 := R.ob n a o h1 h2
  obtain ⟨u, hu⟩ := R.there h1
  have hne : a ≠ p := ne_of_none hu hn
  cases o with
  | lst ds => obtain ⟨vs, e, r⟩ := q1; exact ⟨vs, by rw [upd_ne hne]; exact e, r.addB hn⟩
  | dct lk kvs =>
    obtain ⟨ents, e, r⟩ := q1
    refine ⟨ents, by unfold LkAt at e ⊢; rw [upd_ne hne]; exact e, ?_⟩
    clear e h2; induction r with
    | nil => exact .nil
    | cons h1 h2 h3 h4 _ ih => exact .cons h1 (h2.addB hn) h3 (h4.addB hn) ih
  | dki lk kvs =>
    obtain ⟨ents, e, r⟩ := q1
    refine ⟨ents, by unfold LkAt at e ⊢; rw [upd_ne hne]; exact e, ?_⟩
    clear e h2; induction r with
    | nil => exact .nil
    | cons h4 _ ih => exact .cons (h4.addB hn) ih
  | ins fs =>
    obtain ⟨C, d, ents, hb, e, r⟩ := q1
    refine ⟨C, d, ents, hb, by rw [upd_ne hne]; exact e, ?_⟩
    clear e h2; induction r with
    | nil => exact .nil
    | cons h4 _ ih => exact .cons (h4.addB hn) ih
theorem RE.av {K : PySem.W.Frag} {B ρ : List Addr} {H : Hp} {env : En} {σ : L2.St} {p : Addr} {o : HO} (h : RE K B ρ H env σ) (hp : p ∈ B) : RE K B ρ (upd H p o) env σ :=
  ⟨h.len, fun i d e => (h.at' i d e).imp id fun ⟨v, e1, r⟩ => ⟨v, e1, r.av hp⟩⟩
theorem RE.addB {K : PySem.W.Frag} {B ρ : List Addr} {H : Hp} {env : En} {σ : L2.St} {p : Addr} {o : HO} (h : RE K B ρ H env σ) (hn : H p = none) : RE K (p :: B) ρ (upd H p o) env σ :=
  ⟨h.len, fun i d e => (h.at' i d e).imp id fun ⟨v, e1, r⟩ => ⟨v, e1, r.addB hn⟩⟩
def W0 : WX := fun _ _ _ _ => False
section
variable {X : Cx} {w : Wx} {tg iter elt : Expr} {ifs : List Expr} {fi : FA} {g : D → En → Option En} {t : TG} {is : List Nat} {ft : FT} {fe : FE} {pos : Pos}
theorem wipe_idem {σ : L2.St} : ∀ vs : List Nat, wipe (wipe σ vs) vs = wipe σ vs := by
  intro vs
  apply List.ext_getElem?
  intro i
  by_cases hi : i ∈ vs
  · have key : ∀ (σ : L2.St) (vs : List Nat), i ∈ vs → i < σ.length → (wipe σ vs)[i]? = some none := by
      intro σ vs
      induction vs with
      | nil => intro h; exact nomatch h
      | cons a vs ih =>
        intro h hl
        unfold L2.wipe
        by_cases ha : a = i
        · subst ha; rw [List.getElem?_set_self (by rw [wipe_length]; exact hl)]
        · rw [List.getElem?_set_ne ha]
          exact ih ((List.mem_cons.mp h).resolve_left (Ne.symm ha)) hl
    by_cases hl : i < σ.length
    · rw [key _ vs hi (by rw [wipe_length]; exact hl), key σ vs hi hl]
    · rw [List.getElem?_eq_none (by rw [wipe_length, wipe_length]; omega), List.getElem?_eq_none (by rw [wipe_length]; omega)]
  · rw [wipe_out hi, wipe_out hi]
abbrev SPT (X : Cx) (w : Wx) (ifs : List Expr) (f : FT) : Prop := PTs X ifs (tT (pg X) w.W w.xm f)
theorem spt_nil : SPT X w [] tYesF := ⟨fun pins s σ H Q I ⟨B, L, ρ, S, env, A, g⟩ => pts_nil.run pins s σ H Q I (g true ρ H Post.refl A.rh rfl)⟩
theorem spt_one {c : Expr} (h : ST X w c ft) : SPT X w [c] ft := pts_one h
/-- the reading of a comprehension -/
theorem comp_ok {m : Bool} {vs : List Nat} (hg : TgOk X.K t g is) (hv : ∀ i ∈ is, i ∈ vs) {σ : L2.St} {H : Hp} {Q : VK} (h : tE (pg X) w.W w.xm (fComp m fi g ft fe vs) σ H Q) :
    tLc (tI (pg X) w.W w.xm fi) t (tT (pg X) W0 w.xm ft) (tE (pg X) W0 w.xm fe) vs σ H Q := by
  obtain ⟨B, L, ρ, S, env, A, gg⟩ := h
  refine ⟨B, L, ρ, S, env, A, ?_⟩
  revert gg
  unfold fComp
  cases fi env S with
  | exc c S' => exact fun g => g
  | bad => exact fun g => g
  | ok l S' =>
    rintro gg J ρ1 H1 p R ⟨I, wk, i0⟩ D hD
    have g1 := GO.step gg p
    revert g1
    show GO (pg X) w.W w.xm B L ρ1 H1 σ (rD (pg X) B) (bif fit l.length then
      (match compL g ft fe (undE env vs) l S' with
      | .ok xs S2 => bif m then Out.ok (.loc S2.length) (S2 ++ [.lst xs]) else .ok (.lst xs) S2
      | _ => .bad) else .bad) Q → _
    cases hfit : fit l.length with
    | false => exact fun g => g.elim
    | true =>
    intro g1
    have A1 := A.step p R
    cases hc : compL g ft fe (undE env vs) l S' with
    | exc c S2 => rw [hc] at g1; exact g1.elim
    | bad => rw [hc] at g1; exact g1.elim
    | ok xs S2 =>
    have g2 : GO (pg X) w.W w.xm B L ρ1 H1 σ (rD (pg X) B) (bif m then Out.ok (.loc S2.length) (S2 ++ [.lst xs]) else .ok (.lst xs) S2) Q := by
      rw [hc] at g1; exact g1
    have hDB : D ∉ B := (R.fresh hD).2
    have hDL : D ∉ L := fun z => by obtain ⟨o, u, q⟩ := R.lk D z; rw [hD] at q; cases q
    refine ⟨fun i m H => ∃ ρ S acc accD ys, RH (pg X) (D :: B) L ρ H S ∧ RE X.K (D :: B) ρ H (undE env vs) (wipe σ vs) ∧ I (D :: B) ρ H ∧ H D = some (.lst acc) ∧ RVs X.K (D :: B) ρ H accD acc ∧ accD.length ≤ i ∧ i ≤ l.length ∧ m = l.length - i ∧
      Post L ρ1 H1 ρ H ∧ compL g ft fe (undE env vs) (l.drop i) S = .ok ys S2 ∧ accD ++ ys = xs,
      ⟨l.length, ρ1, S', [], [], xs, R.addB hD, (A1.re.wipe vs).addB hD, wk.addB _ _ _ _ _ hD i0, upd_same, .nil, Nat.zero_le _, Nat.zero_le _, rfl, Post.newV hD, hc, rfl⟩, ?_⟩
    rintro i k H ⟨ρ, S, acc, accD, ys, RH1, re1, i1, hDa, ra, hai, hil, rfl, ps, hcl, hxs⟩
    by_cases hlt : i < l.length
    · refine .inr ⟨wk.go _ ρ H i i1 hlt, fun H => ∃ ρ S acc accD ys, RH (pg X) (D :: B) L ρ H S ∧ RE X.K (D :: B) ρ H (undE env vs) (wipe σ vs) ∧ I (D :: B) ρ H ∧ H D = some (.lst acc) ∧ RVs X.K (D :: B) ρ H accD acc ∧ accD.length ≤ i + 1 ∧
          Post L ρ1 H1 ρ H ∧ compL g ft fe (undE env vs) (l.drop (i + 1)) S = .ok ys S2 ∧ accD ++ ys = xs,
        fun H' ⟨ρ, S, acc, accD, ys, h1, h2, h3, h4, h5, h6, h7, h8, h9⟩ => ⟨l.length - (i + 1), by omega, ρ, S, acc, accD, ys, h1, h2, h3, h4, h5, h6, hlt, rfl, h7, h8, h9⟩, ?_⟩
      intro x H3 y
      obtain ⟨p3, R3, r3⟩ := wk.yld _ ρ S H H3 i l[i] x i1 RH1 (List.getElem?_eq_getElem hlt) y
      rw [List.drop_eq_getElem_cons hlt] at hcl
      unfold compL at hcl
      cases hu : g l[i] (undE env vs) with
      | none => rw [hu] at hcl; cases hcl
      | some env1 =>
        rw [hu] at hcl
        simp only at hcl
        refine hg (D :: B) L ρ H3 l[i] x (undE env vs) env1 (wipe σ vs) _ r3 (re1.mono p3) hu fun σ3 re3 hw => ⟨(hw vs hv).trans (wipe_idem vs), ?_⟩
        cases ht : ft env1 S with
        | exc c S3 => rw [ht] at hcl; cases hcl
        | bad => rw [ht] at hcl; cases hcl
        | ok b S3 =>
          rw [ht] at hcl
          refine ⟨D :: B, L, ρ, S, env1, ⟨R3, re3⟩, ?_⟩
          rw [ht]
          intro b' ρ4 H4 p4 R4 hb
          have hb : b = b' := hb
          subst hb
          have hDρ : D ∉ ρ := fun z => RH1.dj D z List.mem_cons_self
          have e4 : H4 D = some (.lst acc) := p4.ext D _ (.inl hDρ) (p3.ext D _ (.inl hDρ) hDa)
          cases b with
          | false =>
            refine iteF ?_
            simp only at hcl
            exact ⟨ρ4, S3, acc, accD, ys, R4, (re1.mono p3).mono p4, wk.mono _ _ _ _ _ p4 (wk.mono _ _ _ _ _ p3 i1), e4, RVs.mono p4 _ _ (RVs.mono p3 _ _ ra), Nat.le_succ_of_le hai, ps.trans (p3.trans p4), hcl, hxs⟩
          | true =>
            refine iteT ?_
            simp only at hcl
            cases he : fe env1 S3 with
            | exc c S5 => rw [he] at hcl; cases hcl
            | bad => rw [he] at hcl; cases hcl
            | ok z S5 =>
              rw [he] at hcl
              simp only at hcl
              cases hcr : compL g ft fe (undE env vs) (l.drop (i + 1)) S5 with
              | exc c S6 => rw [hcr] at hcl; cases hcl
              | bad => rw [hcr] at hcl; cases hcl
              | ok zs S6 =>
                rw [hcr] at hcl
                cases hcl
                refine ⟨D :: B, L, ρ4, S3, env1, ⟨R4, re3.mono p4⟩, ?_⟩
                rw [he]
                intro y5 ρ5 H5 p5 R5 r5
                have hD4 : D ∉ ρ4 := fun z => R4.dj D z List.mem_cons_self
                have e5 : H5 D = some (.lst acc) := p5.ext D _ (.inl hD4) e4
                have ps5 : Post L ρ1 H1 ρ5 H5 := ps.trans (p3.trans (p4.trans p5))
                refine ⟨acc, e5, ?_, ρ5, S5, acc ++ [y5], accD ++ [z], zs, R5.av List.mem_cons_self hDL, (((re1.mono p3).mono p4).mono p5).av List.mem_cons_self, wk.av _ _ _ _ _ List.mem_cons_self (wk.mono _ _ _ _ _ p5 (wk.mono _ _ _ _ _ p4 (wk.mono _ _ _ _ _ p3 i1))), upd_same,
                  ((RVs.mono p5 _ _ (RVs.mono p4 _ _ (RVs.mono p3 _ _ ra))).append (.cons r5 .nil)).av List.mem_cons_self, by simp; omega, ⟨fun a u ha hu => ?_, ps5.pre, ps5.new⟩, hcr, by rw [← hxs]; simp⟩
                · rw [← ra.length]
                  have := fit_le hfit
                  omega
                · rw [upd_ne (ne_of_none hu hD)]
                  exact ps5.ext a u ha hu
    · have hi : i = l.length := by omega
      subst hi
      refine .inl ⟨wk.stop _ ρ H i1, ?_⟩
      rw [List.drop_length] at hcl
      cases hcl
      rw [List.append_nil] at hxs
      subst hxs
      have hDρ : D ∉ ρ := fun z => RH1.dj D z List.mem_cons_self
      cases m with
      | false => exact g2 (.ref D) ρ H ps (RH1.reB fun a z => List.mem_cons_of_mem _ z) (.lst hDB hDρ hDa (ra.re (fun a z => z.imp (List.mem_cons_of_mem _) id) fun _ _ z => z))
      | true =>
        refine g2 (.ref D) (ρ ++ [D]) H ⟨ps.ext, ?_, fun a z => (List.mem_append.mp z).elim (ps.new a) fun z => ?_⟩ (RH1.addL hDB hDa ra) (.loc ?_)
        · obtain ⟨tt, e⟩ := ps.pre; exact ⟨tt ++ [D], by rw [e, List.append_assoc]⟩
        · simp at z; rw [z]; exact .inr hD
        · rw [← RH1.len, List.getElem?_append_right (Nat.le_refl _)]; simp
end
end Sf
end

section
set_option Elab.async false
set_option maxRecDepth 100000
set_option linter.all false
/-! Sf7: comprehensions as values, functions, calls. -/
namespace Sf
open PySem PySem.Spec PyProof.Rows L2 RZ

/-- within a comprehension's block no exception leaves -/
abbrev wB (w : Wx) : Wx := ⟨W0, w.xm⟩
section
variable {X : Cx} {w : Wx} {tg iter elt : Expr} {ifs : List Expr} {fi : FA} {g : D → En → Option En} {t : TG} {is : List Nat} {ft : FT} {fe : FE} {pos : Pos} {scope : Scope} {own : List (Str × Nat)}
theorem se_lc {m : Bool} (hc : X.calm = true) (hN : X.N.Nodup) (ok : BlkOk X.N X.env.scope scope own) (hv : ∀ i ∈ is, i ∈ own.map (·.2)) (hi : SI X w tg iter fi)
    (hg : ∀ (s : Shared) (H : Hp) (C : Addr) (cl : List (Str × Addr)) (fp : List Addr), PG (X.blk s H scope (compEnvC scope cl C X.env) fp) tg t) (hk : TgOk X.K t g is)
    (ht : ∀ (s : Shared) (H : Hp) (C : Addr) (cl : List (Str × Addr)) (fp : List Addr), SPT (X.blk s H scope (compEnvC scope cl C X.env) fp) (wB w) ifs ft)
    (he : ∀ (s : Shared) (H : Hp) (C : Addr) (cl : List (Str × Addr)) (fp : List Addr), SE (X.blk s H scope (compEnvC scope cl C X.env) fp) (wB w) elt fe) (hs : ∀ x, foldedSetIterable iter X.env x = pure x := by intro _; rfl) :
    SE X w (.ListComp elt [⟨tg, iter, ifs, 0⟩] scope pos) (fComp m fi g ft fe (own.map (·.2))) :=
  PE.imp (pe_lc hc hN hi ok hg ht he hs) fun σ H Q h =>
    comp_ok (X := X) (w := w) (is := is) hk hv h
theorem ss_setLc {m : Bool} {i : Nat} {y : Str} {py spos : Pos} (hc : X.calm = true) (hN : X.N.Nodup) (hy : X.N[i]? = some y) (hyl : X.env.scope.names.lookup y = some .local) (hsw : swapsWith (.ListComp elt [⟨tg, iter, ifs, 0⟩] scope pos) (some (.Name y py)) spos.line X.env = pure true)
    (ok : BlkOk X.N X.env.scope scope own) (hv : ∀ i ∈ is, i ∈ own.map (·.2)) (hi : SI X w tg iter fi)
    (hg : ∀ (s : Shared) (H : Hp) (C : Addr) (cl : List (Str × Addr)) (fp : List Addr), PG (X.blk s H scope (compEnvC scope cl C X.env) fp) tg t) (hk : TgOk X.K t g is)
    (ht : ∀ (s : Shared) (H : Hp) (C : Addr) (cl : List (Str × Addr)) (fp : List Addr), SPT (X.blk s H scope (compEnvC scope cl C X.env) fp) (wB w) ifs ft)
    (he : ∀ (s : Shared) (H : Hp) (C : Addr) (cl : List (Str × Addr)) (fp : List Addr), SE (X.blk s H scope (compEnvC scope cl C X.env) fp) (wB w) elt fe) (hs : ∀ x, foldedSetIterable iter X.env x = pure x := by intro _; rfl) :
    SS X w (.Assign [.Name y py] (.ListComp elt [⟨tg, iter, ifs, 0⟩] scope pos) spos) (sAsg i (fComp m fi g ft fe (own.map (·.2)))) :=
  ss_set' (ps_setLc hc hN hy hyl hsw hi ok hg ht he hs) fun σ H Q h =>
    comp_ok (X := X) (w := w) (is := is) hk hv h
end

/-! ### functions -/
abbrev Fn := List D → Sto → Out D
mutual
/-- all places below n -/
def lowD (n : Nat) : D → Bool
  | .tup l => lowL n l
  | .lst l => lowL n l
  | .scr l => lowL n l
  | .loc k => Nat.blt k n
  | _ => true
def lowL (n : Nat) : List D → Bool
  | [] => true
  | d :: r => lowD n d && lowL n r
end
def lowO (n : Nat) : Ob → Bool
  | .lst l => lowL n l
  | .dct _ kvs => kvs.all fun p => lowD n p.1 && lowD n p.2
  | .dki _ kvs => kvs.all fun p => lowD n p.2
  | .ins fs => fs.all fun p => lowD n p.2
def mapO (f : D → Option D) : List D → Option (List D)
  | [] => some []
  | d :: r => match f d, mapO f r with
    | some x, some xs => some (x :: xs)
    | _, _ => none
/-- the new lists as values -/
def frzD : Nat → Sto → Nat → D → Option D
  | 0, _, _, _ => none
  | k + 1, S, n, d => match d with
    | .tup l => (mapO (frzD k S n) l).map .tup
    | .lst l => (mapO (frzD k S n) l).map .lst
    | .scr l => (mapO (frzD k S n) l).map .scr
    | .loc i => bif Nat.blt i n then some (.loc i) else match S[i]? with
      | some (.lst l) => (mapO (frzD k S n) l).map .lst
      | _ => none
    | d => some d
def endF (n : Nat) (d : D) (S : Sto) : Out D := bif Nat.beq S.length n then .ok d S else match frzD 9 S n d with
  | some d' => bif (S.take n).all (lowO n) then .ok d' (S.take n) else .bad
  | none => .bad
/-- one new object is handed out -/
def endM (n : Nat) (d : D) (S : Sto) : Out D := match d with
  | .loc i => bif Nat.ble n i then match S[i]? with
    | some o => bif (S.take n).all (lowO n) && lowO n o then .ok (.loc n) (S.take n ++ [o]) else .bad
    | none => .bad else .bad
  | _ => .bad
def endX (n : Nat) (c : Nat) (S : Sto) : Out D := bif Nat.beq S.length n then .exc c S else bif (S.take n).all (lowO n) then .exc c (S.take n) else .bad
def fnEnd (m : Bool) (n : Nat) : SR → Out D
  | .rt d S => bif m then endM n d S else endF n d S
  | .nx _ S => endF n .non S
  | .xc c S => endX n c S
  | _ => .bad
def fn (m : Bool) (N : Nat) (b : FS) : Fn := fun ds S => fnEnd m S.length (b (ds ++ List.replicate (N - ds.length) .und) S)
section
variable {G : Pg} {B L ρ ρ' : List Addr} {H : Hp} {S : Sto}
theorem RV.low {K : PySem.W.Frag} {n : Nat} (hρ : ∀ a, a ∈ ρ' → a ∈ ρ) (hp : ∀ (i : Nat) (a : Addr), i < n → ρ[i]? = some a → ρ'[i]? = some a) : ∀ {d : D} {v : V}, RV K B ρ H d v → lowD n d = true → RV K B ρ' H d v := by
  intro d v h
  refine RV.rec (motive_1 := fun d v _ => lowD n d = true → RV K B ρ' H d v) (motive_2 := fun ds vs _ => lowL n ds = true → RVs K B ρ' H ds vs) (fun _ => .non) (fun b _ => .bl b) (fun i _ => .int i) (fun x _ => .str x) (fun h _ ih e => ?_) (fun h1 h2 h3 _ ih e => ?_) (fun h _ ih e => ?_) (fun h e => ?_) (fun h _ => .glob h) (fun _ => .nil) (fun _ _ ih1 ih2 e => ?_) h
  · exact .tup ⟨h.1, fun z => h.2.1 (hρ _ z), h.2.2⟩ (ih e)
  · exact .lst h1 (fun z => h2 (hρ _ z)) h3 (ih e)
  · exact .scr (h.imp (fun h => ⟨h.1, fun z => h.2.1 (hρ _ z), h.2.2⟩) id) (ih e)
  · exact .loc (hp _ _ (Nat.le_of_ble_eq_true e) h)
  · unfold lowL at e
    rw [Bool.and_eq_true] at e
    exact .cons (ih1 e.1) (ih2 e.2)
theorem RVs.low {K : PySem.W.Frag} {n : Nat} (hρ : ∀ a, a ∈ ρ' → a ∈ ρ) (hp : ∀ (i : Nat) (a : Addr), i < n → ρ[i]? = some a → ρ'[i]? = some a) : ∀ {ds : List D} {vs : List V}, RVs K B ρ H ds vs → lowL n ds = true → RVs K B ρ' H ds vs
  | _, _, .nil, _ => .nil
  | _, _, .cons h t, e => by
    unfold lowL at e
    rw [Bool.and_eq_true] at e
    exact .cons (h.low hρ hp e.1) (RVs.low hρ hp t e.2)
theorem RO.low {n : Nat} (hρ : ∀ a, a ∈ ρ' → a ∈ ρ) (hp : ∀ (i : Nat) (a : Addr), i < n → ρ[i]? = some a → ρ'[i]? = some a) {a : Addr} {o : Ob} (h : RO G B L ρ H a o) (e : lowO n o = true) : RO G B L ρ' H a o := by
  cases o with
  | lst ds => obtain ⟨vs, q, r⟩ := h; exact ⟨vs, q, r.low hρ hp e⟩
  | dct lk kvs =>
    obtain ⟨ents, q, r⟩ := h
    refine ⟨ents, q, ?_⟩
    have e := show List.all _ _ = true from e
    clear q; induction r with
    | nil => exact .nil
    | cons h1 h2 h3 h4 _ ih =>
      rw [List.all_cons, Bool.and_eq_true, Bool.and_eq_true] at e
      exact .cons h1 (h2.low hρ hp e.1.1) h3 (h4.low hρ hp e.1.2) (ih e.2 e.2)
  | dki lk kvs =>
    obtain ⟨ents, q, r⟩ := h
    refine ⟨ents, q, ?_⟩
    have e := show List.all _ _ = true from e
    clear q; induction r with
    | nil => exact .nil
    | cons h4 _ ih =>
      rw [List.all_cons, Bool.and_eq_true] at e
      exact .cons (h4.low hρ hp e.1) (ih e.2 e.2)
  | ins fs =>
    obtain ⟨C, d, ents, hb, q, r⟩ := h
    refine ⟨C, d, ents, hb, q, ?_⟩
    have e := show List.all _ _ = true from e
    clear q; induction r with
    | nil => exact .nil
    | cons h4 _ ih =>
      rw [List.all_cons, Bool.and_eq_true] at e
      exact .cons (h4.low hρ hp e.1) (ih e.2 e.2)
/-- the store's first part alone -/
theorem RH.cut {t : List Addr} (R : RH G B L (ρ ++ t) H S) (e : (S.take ρ.length).all (lowO ρ.length) = true) : RH G B L ρ H (S.take ρ.length) := by
  have hl := R.len
  rw [List.length_append] at hl
  refine ⟨by rw [List.length_take]; omega, (List.nodup_append.mp R.nd).1, fun a ha => R.dj a (List.mem_append_left _ ha), R.avo, R.lk, fun n a o h1 h2 => ?_⟩
  have hn : n < ρ.length := (List.getElem?_eq_some_iff.mp h1).1
  have h2' : S[n]? = some o := by rw [List.getElem?_take_of_lt hn] at h2; exact h2
  have h1' : (ρ ++ t)[n]? = some a := by rw [List.getElem?_append_left hn]; exact h1
  exact (R.ob n a o h1' h2').low (fun a z => List.mem_append_left _ z) (fun i a hi z => by rw [List.getElem?_append_left hi] at z; exact z) (List.all_eq_true.mp e o (List.mem_of_getElem? h2))
theorem Post.cut {L t : List Addr} {H' : Hp} (p : Post L ρ H (ρ ++ t) H') : Post L ρ H ρ H' := ⟨p.ext, ⟨[], by simp⟩, fun _ h => .inl h⟩
theorem mapO_ok {K : PySem.W.Frag} {f : D → Option D} (h : ∀ d d' v, RV K B ρ' H d v → f d = some d' → RV K B ρ H d' v) : ∀ {ds ds' : List D} {vs : List V}, RVs K B ρ' H ds vs → mapO f ds = some ds' → RVs K B ρ H ds' vs
  | [], _, _, .nil, e => by cases e; exact .nil
  | d :: ds, ds', _, .cons r t, e => by
    unfold mapO at e
    cases e1 : f d with
    | none => rw [e1] at e; cases e
    | some x =>
      cases e2 : mapO f ds with
      | none => rw [e1, e2] at e; cases e
      | some xs => rw [e1, e2] at e; cases e; exact .cons (h _ _ _ r e1) (mapO_ok h t e2)
theorem frz_ok {t : List Addr} (R : RH G B L (ρ ++ t) H S) : ∀ (k : Nat) (d d' : D) (v : V), RV G.K B (ρ ++ t) H d v → frzD k S ρ.length d = some d' → RV G.K B ρ H d' v := by
  intro k
  induction k with
  | zero => intro d d' v _ e; cases e
  | succ k ih =>
    intro d d' v r e
    unfold frzD at e
    have out : ∀ a, a ∉ ρ ++ t → a ∉ ρ := fun a h z => h (List.mem_append_left _ z)
    cases r with
    | non => cases e; exact .non
    | bl b => cases e; exact .bl b
    | int b => cases e; exact .int b
    | str b => cases e; exact .str b
    | glob h => cases e; exact .glob h
    | @tup a vs ds h r =>
      simp only at e
      cases q : mapO (frzD k S ρ.length) ds with
      | none => rw [q] at e; cases e
      | some xs => rw [q] at e; cases e; exact .tup ⟨h.1, out _ h.2.1, h.2.2⟩ (mapO_ok (fun d d' v r e => ih d d' v r e) r q)
    | @lst a vs ds h1 h2 h3 r =>
      simp only at e
      cases q : mapO (frzD k S ρ.length) ds with
      | none => rw [q] at e; cases e
      | some xs => rw [q] at e; cases e; exact .lst h1 (out _ h2) h3 (mapO_ok (fun d d' v r e => ih d d' v r e) r q)
    | @scr a vs ds h r =>
      simp only at e
      cases q : mapO (frzD k S ρ.length) ds with
      | none => rw [q] at e; cases e
      | some xs => rw [q] at e; cases e; exact .scr (h.imp (fun h => ⟨h.1, out _ h.2.1, h.2.2⟩) id) (mapO_ok (fun d d' v r e => ih d d' v r e) r q)
    | @loc i a h =>
      simp only at e
      cases hb : Nat.blt i ρ.length with
      | true =>
        rw [hb] at e; cases e
        have hi : i < ρ.length := Nat.le_of_ble_eq_true hb
        rw [List.getElem?_append_left hi] at h
        exact .loc h
      | false =>
        rw [hb] at e
        simp only [cond_false] at e
        have hi : ρ.length ≤ i := by
          rcases Nat.lt_or_ge i ρ.length with z | z
          · have : Nat.blt i ρ.length = true := Nat.ble_eq_true_of_le z
            rw [hb] at this; cases this
          · exact z
        cases q : S[i]? with
        | none => rw [q] at e; cases e
        | some o =>
          rw [q] at e
          cases o with
          | lst l =>
            simp only at e
            obtain ⟨vs, h1, h2⟩ := R.ob i a _ h q
            cases q2 : mapO (frzD k S ρ.length) l with
            | none => rw [q2] at e; cases e
            | some xs =>
              rw [q2] at e; cases e
              have hm : a ∈ ρ ++ t := List.mem_of_getElem? h
              have ha : a ∉ ρ := fun z => by
                obtain ⟨j, hj⟩ := List.mem_iff_getElem?.mp z
                have hjl := (List.getElem?_eq_some_iff.mp hj).1
                have : (ρ ++ t)[j]? = some a := by rw [List.getElem?_append_left hjl]; exact hj
                have := L2.nd_ix R.nd this h
                omega
              exact .lst (R.dj a hm) ha h1 (mapO_ok (fun d d' v r e => ih d d' v r e) h2 q2)
          | _ => cases e
end

/-! ### what a function's def promises -/
def spOf (G : Pg) (xm : XM) (n : Nat) (F : Fn) : Sp := fun vs H Q E => vs.length = n ∧ ∃ B L ρ S ds, RH G B L ρ H S ∧ RVs G.K B ρ H ds vs ∧
  match F ds S with
  | .ok d S' => ∀ v ρ' H', Post L ρ H ρ' H' → RH G B L ρ' H' S' → RV G.K B ρ' H' d v → Q v H'
  | .exc c S' => ∀ ρ' H', Post L ρ H ρ' H' → RH G B L ρ' H' S' → E (xm c) none H'
  | .bad => False
section
variable {P : Program} {w : World} {K : PySem.W.Frag} {mg : Str → Option Value} {base : Heap}
theorem fn_ok {x qual : Str} {st : Stmt} {f : Addr} {fd : FuncData} {N ps : List Str} {k : Nat} {m : Bool} {b : FS} (xm : XM) (F : Fun K x qual st f fd) (Sc : FnScope N ps (defScope st))
    (h : ∀ (cdv : Value) (A : Around) (outer : List PySem.Env) (s : Shared) (H : Hp) (E : XK) (W : WX), Room k (A.deeper (envOfC qual (defScope st) s.heap.objs.size f cdv)) →
      Takes (cxOf (L2.CX P w) P w K mg base N qual (defScope st) f cdv A outer s H E) W → SSs (cxOf (L2.CX P w) P w K mg base N qual (defScope st) f cdv A outer s H E) ⟨W, xm⟩ (defBody st) b) :
    FnOk P w K mg base (L2.CX P w) (k + 1) f fd ps (spOf ⟨P, w, K⟩ xm ps.length (fn m N.length b)) := by
  refine F.okX Sc (fun vs H Q E h => h.1) (fun cdv A outer s H vs Q E hr hs => ?_)
  have tk : Takes (cxOf (L2.CX P w) P w K mg base N qual (defScope st) f cdv A outer s H E) (fun cls d _ H => E cls d H) := takes_of rfl rfl rfl rfl
  refine ⟨_, h cdv A outer s H E _ hr tk, ?_⟩
  obtain ⟨hl, B, L, ρ, S, ds, R, rv, g⟩ := hs
  have hNl : ps.length ≤ N.length := by have := congrArg List.length Sc.pre; rw [List.length_take] at this; omega
  refine ⟨B, L, ρ, S, ds ++ List.replicate (N.length - ds.length) .und, ⟨R, ⟨?_, fun i d e => ?_⟩⟩, ?_⟩
  · unfold L2.start
    rw [List.length_append, List.length_append, List.length_map, List.length_replicate, List.length_replicate, rv.length]
  · by_cases hi : i < ds.length
    · rw [List.getElem?_append_left hi] at e
      obtain ⟨v, e1, r1⟩ := rv.get e
      refine .inr ⟨v, ?_, r1⟩
      unfold L2.start
      rw [List.getElem?_append_left (by rw [List.length_map, ← rv.length]; exact hi), List.getElem?_map, e1]
      rfl
    · rw [List.getElem?_append_right (by omega)] at e
      exact .inl (List.eq_of_mem_replicate (List.mem_of_getElem? e))
  · revert g
    unfold fn
    have endF_ok : ∀ {d : D} {v : V} {ρ' : List Addr} {H' : Hp} {S' : Sto}, (match endF S.length d S' with
        | .ok d S' => ∀ v ρ' H', Post L ρ H ρ' H' → RH ⟨P, w, K⟩ B L ρ' H' S' → RV K B ρ' H' d v → Q v H'
        | .exc c S' => ∀ ρ' H', Post L ρ H ρ' H' → RH ⟨P, w, K⟩ B L ρ' H' S' → E (xm c) none H'
        | .bad => False) → Post L ρ H ρ' H' → RH ⟨P, w, K⟩ B L ρ' H' S' → RV K B ρ' H' d v → Q v H' := by
      intro d v ρ' H' S' g p R' r'
      unfold endF at g
      cases hb : Nat.beq S'.length S.length with
      | true => rw [hb] at g; exact g v ρ' H' p R' r'
      | false =>
        rw [hb] at g
        simp only [cond_false] at g
        obtain ⟨t, rfl⟩ := p.pre
        cases hf : frzD 9 S' S.length d with
        | none => rw [hf] at g; exact g.elim
        | some d' =>
          rw [hf] at g
          simp only at g
          cases hl : (S'.take S.length).all (lowO S.length) with
          | false => rw [hl] at g; exact g.elim
          | true =>
            rw [hl] at g
            rw [← R.len] at hf hl g
            exact g v ρ H' p.cut (R'.cut hl) (frz_ok R' 9 d d' v r' hf)
    cases b (ds ++ List.replicate (N.length - ds.length) .und) S with
    | nx env' S' => exact fun g σ' ρ' H' p R' re => endF_ok g p R' .non
    | bk env' S' => exact fun g => g.elim
    | ct env' S' => exact fun g => g.elim
    | bad => exact fun g => g.elim
    | xc c S' =>
      intro g σ' ρ' H' p R'
      unfold fnEnd endX at g
      simp only at g
      cases hb : Nat.beq S'.length S.length with
      | true => rw [hb] at g; exact g ρ' H' p R'
      | false =>
        rw [hb] at g
        simp only [cond_false] at g
        obtain ⟨t, rfl⟩ := p.pre
        cases hl : (S'.take S.length).all (lowO S.length) with
        | false => rw [hl] at g; exact g.elim
        | true =>
          rw [hl] at g
          rw [← R.len] at hl g
          exact g ρ H' p.cut (R'.cut hl)
    | rt d S' =>
      cases m with
      | false => exact fun g v ρ' H' p R' r' => endF_ok g p R' r'
      | true =>
        intro g v ρ' H' p R' r'
        unfold fnEnd endM at g
        simp only [cond_true] at g
        cases r' with
        | @loc i a h =>
          simp only at g
          cases hb : Nat.ble S.length i with
          | false => rw [hb] at g; exact g.elim
          | true =>
            rw [hb] at g
            simp only [cond_true] at g
            have hi : S.length ≤ i := Nat.le_of_ble_eq_true hb
            cases q : S'[i]? with
            | none => rw [q] at g; exact g.elim
            | some o =>
              rw [q] at g
              simp only at g
              cases hl : ((S'.take S.length).all (lowO S.length) && lowO S.length o) with
              | false => rw [hl] at g; exact g.elim
              | true =>
                rw [hl] at g
                rw [Bool.and_eq_true] at hl
                obtain ⟨t, rfl⟩ := p.pre
                rw [← R.len] at hl g hi
                have R2 := R'.cut hl.1
                have hm : a ∈ ρ ++ t := List.mem_of_getElem? h
                have ha : a ∉ ρ := fun z => by
                  obtain ⟨j, hj⟩ := List.mem_iff_getElem?.mp z
                  have hjl := (List.getElem?_eq_some_iff.mp hj).1
                  have : (ρ ++ t)[j]? = some a := by rw [List.getElem?_append_left hjl]; exact hj
                  have := L2.nd_ix R'.nd this h
                  omega
                have hsub : ∀ b, b ∈ ρ ++ [a] → b ∈ ρ ++ t := fun b hb => (List.mem_append.mp hb).elim (List.mem_append_left _) fun z => by simp at z; rw [z]; exact hm
                refine g (.ref a) (ρ ++ [a]) H' ⟨p.ext, ⟨[a], rfl⟩, fun b hb => p.new b (hsub b hb)⟩ ⟨?_, ?_, fun b hb => R'.dj b (hsub b hb), R'.avo, R'.lk, fun n b ob h1 h2 => ?_⟩ (.loc ?_)
                · have := R2.len
                  simp only [List.length_append, List.length_cons, List.length_nil]
                  omega
                · rw [List.nodup_append]
                  refine ⟨R2.nd, by simp, fun b hb c hc => ?_⟩
                  simp at hc; subst hc
                  rintro rfl
                  exact ha hb
                · have lift : ∀ {ob : Ob}, lowO ρ.length ob = true → RO ⟨P, w, K⟩ B L (ρ ++ t) H' b ob → RO ⟨P, w, K⟩ B L (ρ ++ [a]) H' b ob := fun e q =>
                    q.low hsub (fun j c hj z => by rw [List.getElem?_append_left hj] at z; rw [List.getElem?_append_left hj]; exact z) e
                  by_cases hn : n < ρ.length
                  · rw [List.getElem?_append_left hn] at h1
                    rw [List.getElem?_append_left (by rw [← R2.len]; exact hn)] at h2
                    have h2' : S'[n]? = some ob := by rw [List.getElem?_take_of_lt hn] at h2; exact h2
                    exact lift (List.all_eq_true.mp hl.1 ob (List.mem_of_getElem? h2)) (R'.ob n b ob (by rw [List.getElem?_append_left hn]; exact h1) h2')
                  · have hn' : n = ρ.length := by
                      have := (List.getElem?_eq_some_iff.mp h1).1
                      simp at this; omega
                    subst hn'
                    have e1 : (S'.take ρ.length).length = ρ.length := R2.len.symm
                    rw [List.getElem?_append_right (Nat.le_refl _)] at h1
                    rw [List.getElem?_append_right (by rw [e1]; exact Nat.le_refl _), e1] at h2
                    simp only [Nat.sub_self, List.getElem?_cons_zero, Option.some.injEq] at h1 h2
                    subst h1; subst h2
                    exact lift hl.2 (R'.ob i a o h q)
                · rw [List.getElem?_append_right (Nat.le_refl _)]; simp
        | _ => exact g.elim
/-- a def that is never reached at this depth -/
theorem fn_bad {k : Nat} {f : Addr} {fd : FuncData} {ps : List Str} {xm : XM} {n : Nat} (h : ps.length = n) : FnOk P w K mg base (L2.CX P w) k f fd ps (spOf ⟨P, w, K⟩ xm n fun _ _ => .bad) :=
  ⟨fun vs H Q E h' => h'.1.trans h.symm, fun A outer s H args us vs Q E _ _ _ _ h => let ⟨_, _, _, _, _, _, _, _, z⟩ := h; z.elim⟩
end

/-! ### calls -/
def fCall (F : Fn) (fs : FA) : FE := fun env S => (fs env S).bind fun ds S1 => F ds S1
def pureF (F : Fn) : Fn := fun ds S => bif lowL 0 ds then (match F ds [] with
  | .ok d [] => .ok d S
  | .exc c [] => .exc c S
  | _ => .bad) else .bad
section
variable {X : Cx} {w : Wx} {k n : Nat} {f : Addr} {fd : FuncData} {ps : List Str} {F : Fn} {x : Str} {p pos : Pos} {e : Expr} {es : List Expr} {fs : FA}
theorem se_call (FO : FnOk X.prog X.w X.K X.mg X.base (L2.CX X.prog X.w) k f fd ps (spOf (pg X) w.xm n F)) (hn : (e :: es).length = n) (tk : Takes X w.W) (hr : Room k X.A) (hm : X.mg x = some (.ref f)) (hk : PySem.W.keepIn X.K (.ref f) = true) (hb : Binds X.K fd ps [])
    (ha : SA X w (e :: es) fs) (hlen : ∀ env S ds S', fs env S = .ok ds S' → ds.length = n) (hg : Gl X x := by rfl) (hdb : (x == ("__debug__" : Str)) = false := by decide) (he : starEach (e :: es) X.env = (false, eval e X.env) :: starEach es X.env := by rfl) (hpl : (backTo pos (starEach es X.env)).any (·.1) = false := by rfl) :
    SE X w (.Call (.Name x p) (e :: es) [] pos) (fCall F fs) :=
  PE.imp (pe_callS FO hr hg hm hk hb (passAt tk) ha hdb he hpl) fun σ H Q ⟨B, L, ρ, S, env, A, g⟩ => by
    refine ⟨B, L, ρ, S, env, A, ?_⟩
    revert g
    unfold fCall
    cases hfs : fs env S with
    | exc c S' => exact fun g => g
    | bad => exact fun g => g
    | ok ds S' =>
      intro g vs ρ' H' pp R r
      have g' : GO (pg X) w.W w.xm B L ρ' H' σ (rD (pg X) B) (F ds S') Q := GO.step g pp
      refine ⟨by rw [← RVs.length r]; exact hlen _ _ _ _ hfs, B, L, ρ', S', ds, R, r, ?_⟩
      revert g'
      cases F ds S' with
      | ok d S2 => exact fun g => g
      | exc c S2 => exact fun g => g
      | bad => exact fun g => g
theorem spOf_pure {G : Pg} {xm : XM} {n : Nat} {F : Fn} {vs : List V} {H : Hp} {Q : VK} {E : XK} (h : spOf G xm n (pureF F) vs H Q E) : spOf G xm n F vs H Q E := by
  obtain ⟨hl, B, L, ρ, S, ds, R, r, g⟩ := h
  refine ⟨hl, B ++ ρ, L, [], [], ds, ⟨rfl, List.nodup_nil, (fun a z => nomatch z), fun b hb => (List.mem_append.mp hb).elim (R.avo b) R.someM, R.lk, fun n a o h => (by simp at h)⟩, ?_⟩
  unfold pureF at g
  cases hlow : lowL 0 ds with
  | false => rw [hlow] at g; exact g.elim
  | true =>
    rw [hlow] at g
    simp only [cond_true] at g
    refine ⟨?_, ?_⟩
    · -- the places that the caller may change are avoided
      have key : ∀ {d : D} {v : V}, RV G.K B ρ H d v → lowD 0 d = true → RV G.K (B ++ ρ) [] H d v := by
        intro d v h
        refine RV.rec (motive_1 := fun d v _ => lowD 0 d = true → RV G.K (B ++ ρ) [] H d v) (motive_2 := fun ds vs _ => lowL 0 ds = true → RVs G.K (B ++ ρ) [] H ds vs) (fun _ => .non) (fun b _ => .bl b) (fun i _ => .int i) (fun x _ => .str x) (fun h _ ih e => ?_) (fun h1 h2 h3 _ ih e => ?_) (fun h _ ih e => ?_) (fun h e => ?_) (fun h _ => .glob h) (fun _ => .nil) (fun _ _ ih1 ih2 e => ?_) h
        · exact .tup ⟨fun z => (List.mem_append.mp z).elim h.1 h.2.1, (fun z => nomatch z), h.2.2⟩ (ih e)
        · exact .lst (fun z => (List.mem_append.mp z).elim h1 h2) (fun z => nomatch z) h3 (ih e)
        · exact .scr (h.imp (fun h => ⟨fun z => (List.mem_append.mp z).elim h.1 h.2.1, (fun z => nomatch z), h.2.2⟩) id) (ih e)
        · exact absurd (Nat.le_of_ble_eq_true e) (Nat.not_succ_le_zero _)
        · unfold lowL at e
          rw [Bool.and_eq_true] at e
          exact .cons (ih1 e.1) (ih2 e.2)
      have keys : ∀ {ds : List D} {vs : List V}, RVs G.K B ρ H ds vs → lowL 0 ds = true → RVs G.K (B ++ ρ) [] H ds vs := by
        intro ds vs h
        induction ds generalizing vs with
        | nil => intro _; cases h; exact .nil
        | cons d ds ih =>
          cases h with
          | cons h t =>
            intro e
            unfold lowL at e
            rw [Bool.and_eq_true] at e
            exact .cons (key h e.1) (ih t e.2)
      exact keys r hlow
    · have back : ∀ {H' : Hp} {ρ' : List Addr}, Post L [] H ρ' H' → Post L ρ H ρ H' := fun p => ⟨fun a u _ => p.ext a u (.inl fun z => nomatch z), ⟨[], by simp⟩, fun _ h => .inl h⟩
      have backR : ∀ {H' : Hp} {ρ' : List Addr}, Post L [] H ρ' H' → RH G B L ρ H' S := fun p =>
        ⟨R.len, R.nd, R.dj, fun b hb => let ⟨u, e⟩ := R.avo b hb; ⟨u, p.ext b u (.inl fun z => nomatch z) e⟩, fun a ha => let ⟨o, u, e⟩ := R.lk a ha; ⟨o, u, p.ext a _ (.inl fun z => nomatch z) e⟩, fun n a o h1 h2 => by
          obtain ⟨u, e⟩ := R.there h1
          exact (R.ob n a o h1 h2).mono (back p) ((p.ext a u (.inl fun z => nomatch z) e).trans e.symm)⟩
      revert g
      cases F ds [] with
      | bad => exact fun g => g
      | exc c S' =>
        cases S' with
        | nil => exact fun g ρ' H' p R' => g ρ H' (back p) (backR p)
        | cons => exact fun g => g.elim
      | ok d S' =>
        cases S' with
        | nil =>
          intro g v ρ' H' p R' r'
          have hρ : ρ' = [] := List.eq_nil_of_length_eq_zero R'.len
          subst hρ
          exact g v ρ H' (back p) (backR p) (r'.re (fun a z => .inl (List.mem_append.mpr z)) fun n a z => by simp at z)
        | cons => exact fun g => g.elim
theorem fn_pure {P : Program} {w : World} {K : PySem.W.Frag} {mg : Str → Option Value} {base : Heap} {G : Pg} {xm : XM} {k n : Nat} {f : Addr} {fd : FuncData} {ps : List Str} {F : Fn} (h : FnOk P w K mg base (L2.CX P w) k f fd ps (spOf G xm n F)) : FnOk P w K mg base (L2.CX P w) k f fd ps (spOf G xm n (pureF F)) :=
  h.imp fun vs H Q E => spOf_pure
end
end Sf
end

section
set_option Elab.async false
set_option maxRecDepth 100000
set_option linter.all false
/-! Sf8: methods of lists, chains, a walk over a list's place, the law's end. -/
namespace Sf
open PySem PySem.Spec PyProof.Rows L2 RZ

/-! ### built-in names -/
theorem bt_len : bootBuiltins "len" = some (.builtin "len") := by decide +kernel
theorem bt_abs : bootBuiltins "abs" = some (.builtin "abs") := by decide +kernel
theorem bt_max : bootBuiltins "max" = some (.builtin "max") := by decide +kernel
theorem bt_min : bootBuiltins "min" = some (.builtin "min") := by decide +kernel
theorem bt_sum : bootBuiltins "sum" = some (.builtin "sum") := by decide +kernel
theorem bt_all : bootBuiltins "all" = some (.builtin "all") := by decide +kernel
theorem bt_any : bootBuiltins "any" = some (.builtin "any") := by decide +kernel
theorem bt_isinstance : bootBuiltins "isinstance" = some (.builtin "isinstance") := by decide +kernel
theorem bt_sorted : bootBuiltins "sorted" = some (.builtin "sorted") := by decide +kernel
theorem bt_int : bootBuiltins "int" = some (.type "int") := by decide +kernel
theorem bt_bool : bootBuiltins "bool" = some (.type "bool") := by decide +kernel
theorem bt_str : bootBuiltins "str" = some (.type "str") := by decide +kernel
theorem bt_list : bootBuiltins "list" = some (.type "list") := by decide +kernel
theorem bt_tuple : bootBuiltins "tuple" = some (.type "tuple") := by decide +kernel

/-! ### lengths of argument lists -/
def LenA (fs : FA) (n : Nat) : Prop := ∀ env S ds S', fs env S = .ok ds S' → ds.length = n
theorem len_nil : LenA fNil 0 := fun env S ds S' h => by cases h; rfl
theorem len_cons {f : FE} {fs : FA} {n : Nat} (h : LenA fs n) : LenA (fCons f fs) (n + 1) := fun env S ds S' e => by
  unfold fCons at e
  cases e1 : f env S with
  | exc c S1 => rw [e1] at e; cases e
  | bad => rw [e1] at e; cases e
  | ok x S1 =>
    rw [e1] at e
    have e : ((fs env S1).bind fun xs S2 => Out.ok (x :: xs) S2) = .ok ds S' := e
    cases e2 : fs env S1 with
    | exc c S2 => rw [e2] at e; cases e
    | bad => rw [e2] at e; cases e
    | ok xs S2 => rw [e2] at e; cases e; rw [List.length_cons, h _ _ _ _ e2]

/-! ### what is never reached -/
def sBad : FS := fun _ _ => .bad
theorem ss_bad {X : Cx} {w : Wx} {st : Stmt} : SS X w st sBad := PS.imp ps_never fun D σ H ⟨B, L, ρ, S, env, A, g⟩ => g.elim

/-! ### x op= e with great factors; chains -/
section
variable {X : Cx} {w : Wx} {a b c : Expr} {fa fb fc : FE} {pos : Pos}
theorem iop_mulW : OpR X (inplaceOp .Mult) (rI CMulW fun i j => .int (i * j)) := opI fun _ _ _ _ _ _ _ hc q => imul_int q hc.ok
def oMulI : Op2 := fun x y S => match x, y with
  | .int i, .int j => bif mulOk i j then some (.int (i * j), S) else none
  | _, _ => none
def oAddI : Op2 := fun x y S => match x, y with
  | .int i, .int j => some (.int (i + j), S)
  | _, _ => none
theorem ok_addI : Ok2 (pg X) (rI0 fun i j => .int (i + j)) oAddI := by
  intro B L ρ S S' H d1 d2 d' x y Q R r1 r2 e q
  cases r1 with
  | int i =>
    cases r2 with
    | int j => cases e; exact ⟨i, j, rfl, rfl, here q R (.int _)⟩
    | _ => cases e
  | _ => cases e
theorem opr_imul : OpR X (inplaceOp .Mult) (fun x y H Q => rI CMul (fun i j => .int (i * j)) x y H Q ∨ rI CMulW (fun i j => .int (i * j)) x y H Q) := iop_mul.or iop_mulW
theorem ok_mulI : Ok2 (pg X) (fun x y H Q => rI CMul (fun i j => .int (i * j)) x y H Q ∨ rI CMulW (fun i j => .int (i * j)) x y H Q) oMulI := by
  intro B L ρ S S' H d1 d2 d' x y Q R r1 r2 e q
  cases r1 with
  | int i =>
    cases r2 with
    | int j =>
      unfold oMulI at e
      cases hf : mulOk i j with
      | false => simp [hf] at e
      | true =>
        simp [hf] at e; obtain ⟨rfl, rfl⟩ := e
        rcases mulOk_ok hf with c | c
        · exact .inl ⟨i, j, rfl, rfl, c, here q R (.int _)⟩
        · exact .inr ⟨i, j, rfl, rfl, c, here q R (.int _)⟩
    | _ => cases e
  | _ => cases e
/-- a <= b <= c -/
def fChain (p q : Int → Int → Bool) (fa fb fc : FE) : FE := fun env S => (fa env S).bind fun x S1 => (fb env S1).bind fun y S2 => match x, y with
  | .int i, .int j => bif p i j then (fc env S2).bind fun z S3 => (match z with
      | .int k => .ok (.bl (q j k)) S3
      | _ => .bad) else .ok (.bl false) S2
  | _, _ => .bad
theorem go_chain {p q : Int → Int → Bool} {σ : L2.St} {H : Hp} {Q : VK} (h : tE (pg X) w.W w.xm (fChain p q fa fb fc) σ H Q) :
    tChain (rI0 fun i j => .bl (p i j)) (rI0 fun i j => .bl (q i j)) (tE (pg X) w.W w.xm fa) (tE (pg X) w.W w.xm fb) (tE (pg X) w.W w.xm fc) σ H Q := by
  obtain ⟨B, L, ρ, S, env, A, g⟩ := h
  refine tE_mono (tE_bind2 (rel := rD (pg X)) A g) fun x H1 h1 => tE_mono h1 fun y H2 ⟨B, L, ρ, S, d, d2, A, r, r2, g⟩ => ?_
  cases r with
  | int i =>
    cases r2 with
    | int j =>
      refine ⟨i, j, rfl, rfl, _, rfl, ?_⟩
      simp only at g
      cases hp : p i j with
      | false => rw [hp] at g; exact iteF (GO.ok0 g A (.bl _))
      | true =>
        rw [hp] at g
        refine iteT (tE_mono (tE_bind (rel := rD (pg X)) A g) fun z H3 ⟨B, L, ρ, S, d, A, r, g⟩ => ?_)
        cases r with
        | int k => exact ⟨j, k, rfl, rfl, GO.ok0 g A (.bl _)⟩
        | _ => exact g.elim
    | _ => exact g.elim
  | _ => exact g.elim
theorem se_chain {op op' : CmpOp} {p q : Int → Int → Bool} (ho : OpR X (compareOp op) (rI0 fun i j => .bl (p i j))) (ho' : OpR X (compareOp op') (rI0 fun i j => .bl (q i j))) (ha : SE X w a fa) (hb : SE X w b fb) (hc : SE X w c fc)
    (hm : lastMarks [op, op'] [b, c] = false := by with_unfolding_all rfl) : SE X w (.Compare a [op, op'] [b, c] pos) (fChain p q fa fb fc) :=
  PE.imp (pe_chain ho ho' ha hb hc hm) fun σ H Q h => go_chain h
theorem st_chain {op op' : CmpOp} {p q : Int → Int → Bool} (ho : OpR X (compareOp op) (rI0 fun i j => .bl (p i j))) (ho' : OpR X (compareOp op') (rI0 fun i j => .bl (q i j))) (ha : SE X w a fa) (hb : SE X w b fb) (hc : SE X w c fc)
    (hm : lastMarks [op, op'] [b, c] = false := by with_unfolding_all rfl) : ST X w (.Compare a [op, op'] [b, c] pos) (tVal (fChain p q fa fb fc)) :=
  PT.imp (pt_chain ho ho' ha hb hc hm) fun σ H Q ⟨B, L, ρ, S, env, A, gg⟩ => by
    have key : tE (pg X) w.W w.xm (fChain p q fa fb fc) σ H fun x H1 => ∃ k, x = .bl k ∧ Q k H1 := by
      refine tE_mono (tE_bind (rel := fun _ => rB) (f := fChain p q fa fb fc) A gg) fun x H1 ⟨B, L, ρ, S, d, A, r, g⟩ => ?_
      cases r with
      | bl c => exact ⟨c, rfl, GO.ok0 g A rfl⟩
      | _ => exact g.elim
    exact go_chain key
end

/-! ### methods of a list -/
/-- o.m(e, ..), o.m(): an operation on the receiver and the arguments -/
abbrev OpM := D → List D → Sto → Option (D × Sto)
def fMeth (g : OpM) (fo : FE) (fs : FA) : FE := fun env S => (fo env S).bind fun o S1 => (fs env S1).bind fun xs S2 => outO (g o xs S2)
def mAppend : OpM := fun o xs S => match o, xs with
  | .loc n, [x] => match S[n]? with
    | some (.lst l) => bif fitS l.length then some (.non, S.set n (.lst (l ++ [x]))) else none
    | _ => none
  | _, _ => none
def mExtend : OpM := fun o xs S => match o, xs with
  | .loc n, [y] => match S[n]?, lsW y S with
    | some (.lst l), some m => bif fit (l.length + m.length) then some (.non, S.set n (.lst (l ++ m))) else none
    | _, _ => none
  | _, _ => none
def mPop : OpM := fun o xs S => match o, xs with
  | .loc n, [] => match S[n]? with
    | some (.lst l) => match l.getLast? with
      | some x => some (x, S.set n (.lst l.dropLast))
      | none => none
    | _ => none
  | _, _ => none
def mCount : OpM := fun o xs S => match lsR o S, xs with
  | some l, [.int k] => match intsD l with
    | some ns => some (.int ((ns.count k : Nat) : Int), S)
    | none => none
  | _, _ => none
abbrev OkM (G : Pg) (r : V → List V → Hp → VK → Prop) (g : OpM) : Prop := ∀ (B L ρ : List Addr) (S S' : Sto) (H : Hp) (o : D) (ds : List D) (d' : D) (x : V) (xs : List V) (Q : VK), RH G B L ρ H S → RV G.K B ρ H o x → RVs G.K B ρ H ds xs → g o ds S = some (d', S') →
  (∀ v ρ' H', Post L ρ H ρ' H' → RH G B L ρ' H' S' → RV G.K B ρ' H' d' v → Q v H') → r x xs H Q
section
variable {X : Cx} {w : Wx} {o e : Expr} {es : List Expr} {fo : FE} {fs : FA} {name : Str} {apos cpos : Pos}
/-- the receiver is a list -/
def isLs (d : D) (S : Sto) : Bool := (lsR d S).isSome
def fMethL (g : OpM) (fo : FE) (fs : FA) : FE := fun env S => (fo env S).bind fun o S1 => bif isLs o S1 then (fs env S1).bind fun xs S2 => outO (g o xs S2) else .bad
theorem isLs_ok {G : Pg} {B L ρ : List Addr} {S : Sto} {H : Hp} {d : D} {x : V} (R : RH G B L ρ H S) (r : RV G.K B ρ H d x) (h : isLs d S = true) : tyV G.K "list" x H := by
  unfold isLs at h
  obtain ⟨l, e⟩ := Option.isSome_iff_exists.mp h
  obtain ⟨a, vs, rfl, h1, h2⟩ := lsR_ok R r e
  exact .inl ⟨rfl, vs, h1⟩
theorem go_methL {g : OpM} {r : V → List V → Hp → VK → Prop} (h : OkM (pg X) r g) {σ : L2.St} {H : Hp} {Q : VK} (ht : tE (pg X) w.W w.xm (fMethL g fo fs) σ H Q) :
    tE (pg X) w.W w.xm fo σ H fun x H1 => tyV X.K "list" x H1 ∧ tA (pg X) w.W w.xm fs σ H1 fun xs H2 => r x xs H2 Q := by
  obtain ⟨B, L, ρ, S, env, A, gg⟩ := ht
  refine ⟨B, L, ρ, S, env, A, ?_⟩
  revert gg
  unfold fMethL
  cases fo env S with
  | exc c S' => exact fun g => g
  | bad => exact fun g => g
  | ok d S' =>
    intro g1 v ρ' H' p R r1
    have g2 : GO (pg X) w.W w.xm B L ρ' H' σ (rD (pg X) B) (bif isLs d S' then (fs env S').bind fun xs S2 => outO (g d xs S2) else .bad) Q := GO.step g1 p
    cases hl : isLs d S' with
    | false => rw [hl] at g2; exact g2.elim
    | true =>
      rw [hl] at g2
      refine ⟨isLs_ok (G := pg X) R r1 hl, B, L, ρ', S', env, A.step p R, ?_⟩
      revert g2
      show GO (pg X) w.W w.xm B L ρ' H' σ (rD (pg X) B) ((fs env S').bind fun xs S2 => outO (g d xs S2)) Q → _
      cases fs env S' with
      | exc c S' => exact fun g => g
      | bad => exact fun g => g
      | ok ds S2 =>
        intro g2 vs ρ2 H2 p2 R2 r2
        have g3 : GO (pg X) w.W w.xm B L ρ2 H2 σ (rD (pg X) B) (outO (g d ds S2)) Q := GO.step g2 p2
        obtain ⟨d', S3, e, q⟩ := g3.outO
        exact h B L ρ2 S2 S3 H2 d ds d' v vs Q R2 (r1.mono p2) r2 e q
theorem ok_append : OkM (pg X) rAppend mAppend := by
  intro B L ρ S S' H o ds d' x xs Q R ro rs e q
  match o, ds, e with
  | .loc n, [d], e =>
    obtain ⟨y, rfl, r⟩ := rvs1 rs
    cases ro with
    | @loc _ a h =>
      unfold mAppend at e
      simp only at e
      cases q1 : S[n]? with
      | none => rw [q1] at e; cases e
      | some ob =>
        rw [q1] at e
        cases ob with
        | lst l =>
          simp only at e
          cases hf : fitS l.length with
          | false => rw [hf] at e; cases e
          | true =>
            rw [hf] at e; cases e
            obtain ⟨vs, h1, h2⟩ := R.ob n a _ h q1
            have hl : a ∉ L := R.notL h1 fun _ _ z => nomatch z
            exact ⟨a, vs, y, rfl, rfl, h1, by rw [← h2.length]; exact fitS_lt hf, q .non ρ _ (Post.wr h hl) (R.wr h hl ⟨_, upd_same, RVs.mono (Post.wr (L := L) h hl) _ _ (h2.append (.cons r .nil))⟩) .non⟩
        | _ => cases e
theorem ok_extend : OkM (pg X) rExtend mExtend := by
  intro B L ρ S S' H o ds d' x xs Q R ro rs e q
  match o, ds, e with
  | .loc n, [d], e =>
    obtain ⟨y, rfl, r⟩ := rvs1 rs
    cases ro with
    | @loc _ a h =>
      unfold mExtend at e
      simp only at e
      cases q1 : S[n]? with
      | none => rw [q1] at e; cases e
      | some ob =>
        cases ob with
        | lst l =>
          cases q2 : lsW d S with
          | none => rw [q1, q2] at e; cases e
          | some m =>
            rw [q1, q2] at e
            simp only at e
            cases hf : fit (l.length + m.length) with
            | false => rw [hf] at e; cases e
            | true =>
              rw [hf] at e; cases e
              obtain ⟨vs, h1, h2⟩ := R.ob n a _ h q1
              obtain ⟨b, ws, rfl, h3, h4⟩ := lsW_ok (G := pg X) R r q2
              have hl : a ∉ L := R.notL h1 fun _ _ z => nomatch z
              exact ⟨a, b, vs, ws, rfl, rfl, h1, h3, by rw [← h2.length, ← h4.length]; exact fit_le hf, q .non ρ _ (Post.wr h hl) (R.wr h hl ⟨_, upd_same, RVs.mono (Post.wr (L := L) h hl) _ _ (h2.append h4)⟩) .non⟩
        | _ => rw [q1] at e; cases e
theorem ok_pop : OkM (pg X) rPop mPop := by
  intro B L ρ S S' H o ds d' x xs Q R ro rs e q
  match o, ds, e with
  | .loc n, [], e =>
    cases rs
    cases ro with
    | @loc _ a h =>
      unfold mPop at e
      simp only at e
      cases q1 : S[n]? with
      | none => rw [q1] at e; cases e
      | some ob =>
        rw [q1] at e
        cases ob with
        | lst l =>
          simp only at e
          cases q2 : l.getLast? with
          | none => rw [q2] at e; cases e
          | some z =>
            rw [q2] at e; cases e
            obtain ⟨vs, h1, h2⟩ := R.ob n a _ h q1
            have hl : a ∉ L := R.notL h1 fun _ _ z => nomatch z
            rw [List.getLast?_eq_getElem?, h2.length] at q2
            obtain ⟨y, e2, r2⟩ := h2.get q2
            exact ⟨a, vs, y, rfl, rfl, h1, e2, q y ρ _ (Post.wr h hl) (R.wr h hl ⟨_, upd_same, RVs.mono (Post.wr (L := L) h hl) _ _ h2.dropLast⟩) (r2.mono (Post.wr (L := L) h hl))⟩
        | _ => cases e
theorem ok_count : OkM (pg X) (rCntI X.K) mCount := by
  intro B L ρ S S' H o ds d' x xs Q R ro rs e q
  unfold mCount at e
  cases e1 : lsR o S with
  | none => rw [e1] at e; cases e
  | some l =>
    rw [e1] at e
    match ds, e with
    | [.int k], e =>
      obtain ⟨y, rfl, r⟩ := rvs1 rs
      cases r
      simp only at e
      cases e2 : intsD l with
      | none => rw [e2] at e; cases e
      | some ns =>
        rw [e2] at e; cases e
        obtain ⟨a, vs, rfl, h1, h2⟩ := lsR_ok (G := pg X) R ro e1
        obtain rfl := intsD_ok (G := pg X) h2 e2
        exact ⟨a, ns, k, rfl, rfl, h1, here (G := pg X) q R (.int _)⟩
theorem se_append (ho : SE X w o fo) (ha : SA X w [e] fs) (hbase : attributeBase o "append" X.env (eval o X.env) = eval o X.env := by rfl)
    (hfew : ((backTo cpos (starEach [e] X.env)).all (fun x => !x.1) && (backToKw cpos (keywordEach [] X.env)).all (fun x => x.1.isSome) && decide (([e] : List Expr).length + ([] : List Keyword).length + (if ([] : List Keyword).isEmpty then 0 else 1) < 30)) = true := by rfl)
    (hline : (apos.endLine == cpos.line) = true := by rfl) (hs : starEach [e] X.env = (false, eval e X.env) :: starEach [] X.env := by rfl) (hplain : (backTo cpos (starEach [] X.env)).any (·.1) = false := by rfl) :
    SE X w (.Call (.Attribute o "append" apos) [e] [] cpos) (fMethL mAppend fo fs) :=
  PE.imp (pe_bm PySem.F.plainAttrs_list PySem.F.slot_list_append PySem.F.type_list_append mt_append ho ha hbase hfew hline hs hplain) fun σ H Q h => go_methL ok_append h
theorem se_extend (ho : SE X w o fo) (ha : SA X w [e] fs) (hbase : attributeBase o "extend" X.env (eval o X.env) = eval o X.env := by rfl)
    (hfew : ((backTo cpos (starEach [e] X.env)).all (fun x => !x.1) && (backToKw cpos (keywordEach [] X.env)).all (fun x => x.1.isSome) && decide (([e] : List Expr).length + ([] : List Keyword).length + (if ([] : List Keyword).isEmpty then 0 else 1) < 30)) = true := by rfl)
    (hline : (apos.endLine == cpos.line) = true := by rfl) (hs : starEach [e] X.env = (false, eval e X.env) :: starEach [] X.env := by rfl) (hplain : (backTo cpos (starEach [] X.env)).any (·.1) = false := by rfl) :
    SE X w (.Call (.Attribute o "extend" apos) [e] [] cpos) (fMethL mExtend fo fs) :=
  PE.imp (pe_bm PySem.F.plainAttrs_list PySem.F.slot_list_extend PySem.F.type_list_extend mt_extend ho ha hbase hfew hline hs hplain) fun σ H Q h => go_methL ok_extend h
theorem se_count (ho : SE X w o fo) (ha : SA X w [e] fs) (hbase : attributeBase o "count" X.env (eval o X.env) = eval o X.env := by rfl)
    (hfew : ((backTo cpos (starEach [e] X.env)).all (fun x => !x.1) && (backToKw cpos (keywordEach [] X.env)).all (fun x => x.1.isSome) && decide (([e] : List Expr).length + ([] : List Keyword).length + (if ([] : List Keyword).isEmpty then 0 else 1) < 30)) = true := by rfl)
    (hline : (apos.endLine == cpos.line) = true := by rfl) (hs : starEach [e] X.env = (false, eval e X.env) :: starEach [] X.env := by rfl) (hplain : (backTo cpos (starEach [] X.env)).any (·.1) = false := by rfl) :
    SE X w (.Call (.Attribute o "count" apos) [e] [] cpos) (fMethL mCount fo fs) :=
  PE.imp (pe_bm PySem.F.plainAttrs_list PySem.F.slot_list_count PySem.F.type_list_count mt_lcount ho ha hbase hfew hline hs hplain) fun σ H Q h => go_methL ok_count h
theorem se_pop (ho : SE X w o fo) (hbase : attributeBase o "pop" X.env (eval o X.env) = eval o X.env := by rfl) (hline : (apos.endLine == cpos.line) = true := by rfl) :
    SE X w (.Call (.Attribute o "pop" apos) [] [] cpos) (fMethL mPop fo fNil) :=
  PE.imp (pe_bm0 PySem.F.plainAttrs_list PySem.F.slot_list_pop PySem.F.type_list_pop mt_pop ho hbase hline) fun σ H Q h => tE_mono (go_methL (fs := fNil) ok_pop h) fun x H1 ⟨h1, B, L, ρ, S, env, A, g⟩ => ⟨h1, g [] ρ H1 Post.refl A.rh .nil⟩
end

/-! ### a walk over a value or over a list's place -/
def forV (g : D → En → Option En) (b : FS) (n : Nat) : Nat → Nat → FS
  | 0, _ => fun _ _ => .bad
  | k + 1, i => fun env S => match S[n]? with
    | some (.lst l) => match l[i]? with
      | some d => match g d env with
        | none => .bad
        | some env1 => match b env1 S with
          | .nx env' S' => forV g b n k (i + 1) env' S'
          | .ct env' S' => forV g b n k (i + 1) env' S'
          | .bk env' S' => .nx env' S'
          | r => r
      | none => .nx env S
    | _ => .bad
def sForD (a : FE) (g : D → En → Option En) (b : FS) : FS := fun env S => (a env S).bindS fun x S1 => match x with
  | .loc n => match S1[n]? with
    | some (.lst l) => forV g b n (l.length + 1) 0 env S1
    | _ => .bad
  | x => match itemsD x with
    | some l => forL g b l env S1
    | none => .bad

section
variable {X : Cx} {w : Wx} {tg iter : Expr} {body : List Stmt} {fe : FE} {g : D → En → Option En} {t : TG} {is : List Nat} {f : FS} {pos : Pos}
theorem ss_forD (hp : PassesOwn (model X.prog X.w) X.A X.env X.xe) (hc : X.calm = true) (hi : SE X w iter fe) (hg : SG X tg t g is) (hb : SSs X w body f) (hs : ∀ x, foldedSetIterable iter X.env x = pure x := by intro _; rfl) :
    SS X w (.For tg iter body [] pos) (sForD fe g f) := PS.imp (ps_for hp hc (pi_seq hi) hg.pg hb hs) fun D σ H ⟨B, L, ρ, S, env, A, gg⟩ => by
  refine ⟨B, L, ρ, S, env, A, ?_⟩
  revert gg
  unfold sForD
  cases fe env S with
  | exc c S' => exact fun g => g σ
  | bad => exact fun g => g
  | ok d S' =>
    intro gg v ρ1 H1 p R r
    have A1 := A.step p R
    -- a value
    have fixd : ∀ {l : List Sf.D} {J : It} {I : List Addr → List Addr → Hp → Prop}, GS (pg X) w.W w.xm B L ρ H (forL g f l env S') D → WalkOk (pg X) L J l I → I B ρ1 H1 →
        ∃ W : Nat → Nat → L2.St → Hp → Prop, (∃ m, W 0 m σ H1) ∧ ∀ i m σ H, W i m σ H →
          (J.stop i H ∧ D.nx σ H) ∨ (J.go i H ∧ ∃ N : L2.St → Hp → Prop, (∀ σ' H', N σ' H' → ∃ m', m' < m ∧ W (i + 1) m' σ' H') ∧ ∀ x H', J.yld i H x H' → t x σ H' fun σ2 H2 => tS (pg X) w.W w.xm f { D with nx := N, ct := N, bk := D.nx } σ2 H2) := by
      intro l J I gg wk i0
      have g1 : GS (pg X) w.W w.xm B L ρ1 H1 (forL g f l env S') D := GS.step gg p
      refine ⟨fun i m σ H => ∃ ρ S env, At (pg X) B L ρ S env σ H ∧ I B ρ H ∧ i ≤ l.length ∧ m = l.length - i ∧ GS (pg X) w.W w.xm B L ρ H (forL g f (l.drop i) env S) D, ⟨l.length, ρ1, S', env, A1, i0, Nat.zero_le _, rfl, g1⟩, ?_⟩
      rintro i m σ2 H2 ⟨ρ2, S2, env2, A2, i2, hle, rfl, g2⟩
      by_cases hlt : i < l.length
      · refine .inr ⟨wk.go B ρ2 H2 i i2 hlt, fun σ H => ∃ ρ S env, At (pg X) B L ρ S env σ H ∧ I B ρ H ∧ GS (pg X) w.W w.xm B L ρ H (forL g f (l.drop (i + 1)) env S) D, fun σ' H' ⟨ρ, S, env, A, i', g'⟩ => ⟨l.length - (i + 1), by omega, ρ, S, env, A, i', hlt, rfl, g'⟩, ?_⟩
        intro x H3 y
        obtain ⟨p3, R3, r3⟩ := wk.yld B ρ2 S2 H2 H3 i l[i] x i2 A2.rh (List.getElem?_eq_getElem hlt) y
        rw [List.drop_eq_getElem_cons hlt] at g2
        unfold forL at g2
        cases hu : g l[i] env2 with
        | none => rw [hu] at g2; exact g2.elim
        | some env3 =>
          rw [hu] at g2
          refine hg.ok B L ρ2 H3 l[i] x env2 env3 σ2 _ r3 (A2.re.mono p3) hu fun σ3 re3 _ => ?_
          refine ⟨B, L, ρ2, S2, env3, ⟨R3, re3⟩, ?_⟩
          have g3 := GS.step g2 p3
          have i3 := wk.mono B ρ2 ρ2 H2 H3 p3 i2
          revert g3
          simp only
          cases f env3 S2 with
          | nx env' S' => exact fun g σ' ρ' H' p R re => ⟨ρ', S', env', ⟨R, re⟩, wk.mono B ρ2 ρ' H3 H' p i3, GS.step g p⟩
          | ct env' S' => exact fun g σ' ρ' H' p R re => ⟨ρ', S', env', ⟨R, re⟩, wk.mono B ρ2 ρ' H3 H' p i3, GS.step g p⟩
          | bk e S' => exact fun g => g
          | rt e S' => exact fun g => g
          | xc c S' => exact fun g => g
          | bad => exact fun g => g
      · have hi : i = l.length := by omega
        subst hi
        rw [List.drop_length] at g2
        exact .inl ⟨wk.stop B ρ2 H2 i2, GS.nx0 g2 A2.rh A2.re⟩
    cases r with
    | tup h r => exact ⟨_, rfl, .inr ⟨⟨_, h.sq⟩, fixd gg walk_tup ⟨h, r⟩⟩⟩
    | lst h1 h2 h3 r => exact ⟨_, rfl, .inl ⟨⟨_, .inl (.inl h3)⟩, fixd gg walk_scr ⟨.inl ⟨h1, h2, .inl h3⟩, r⟩⟩⟩
    | scr h r => exact ⟨_, rfl, .inl ⟨⟨_, h.sq⟩, fixd gg walk_scr ⟨h, r⟩⟩⟩
    | @loc n a h =>
      have gg : GS (pg X) w.W w.xm B L ρ H (match S'[n]? with
        | some (.lst l) => forV g f n (l.length + 1) 0 env S'
        | _ => .bad) D := gg
      cases q1 : S'[n]? with
      | none => rw [q1] at gg; exact gg.elim
      | some ob =>
        rw [q1] at gg
        cases ob with
        | lst l =>
          obtain ⟨vs, h1, h2⟩ := R.ob n a _ h q1
          have g1 : GS (pg X) w.W w.xm B L ρ1 H1 (forV g f n (l.length + 1) 0 env S') D := GS.step gg p
          refine ⟨a, rfl, .inl ⟨⟨vs, .inl (.inl h1)⟩, ?_⟩⟩
          refine ⟨fun i m σ H => ∃ ρ S env, At (pg X) B L ρ S env σ H ∧ ρ[n]? = some a ∧ GS (pg X) w.W w.xm B L ρ H (forV g f n m i env S) D, ⟨l.length + 1, ρ1, S', env, A1, h, g1⟩, ?_⟩
          rintro i m σ2 H2 ⟨ρ2, S2, env2, A2, hn, g2⟩
          cases m with
          | zero => exact g2.elim
          | succ m =>
            unfold forV at g2
            cases q2 : S2[n]? with
            | none => rw [q2] at g2; exact g2.elim
            | some ob =>
              rw [q2] at g2
              cases ob with
              | lst l2 =>
                simp only at g2
                obtain ⟨vs2, h3, h4⟩ := A2.rh.ob n a _ hn q2
                cases q3 : l2[i]? with
                | none =>
                  rw [q3] at g2
                  exact .inl ⟨⟨vs2, .inl (.inl h3), by rw [← h4.length]; exact List.getElem?_eq_none_iff.mp q3⟩, GS.nx0 g2 A2.rh A2.re⟩
                | some d2 =>
                  rw [q3] at g2
                  simp only at g2
                  obtain ⟨v2, e2, r2⟩ := h4.get q3
                  refine .inr ⟨⟨vs2, v2, .inl (.inl h3), e2⟩, fun σ H => ∃ ρ S env, At (pg X) B L ρ S env σ H ∧ ρ[n]? = some a ∧ GS (pg X) w.W w.xm B L ρ H (forV g f n m (i + 1) env S) D, fun σ' H' h => ⟨m, Nat.lt_succ_self m, h⟩, ?_⟩
                  rintro x H3 ⟨rfl, y⟩
                  have := y vs2 (.inl (.inl h3))
                  rw [e2] at this; cases this
                  cases hu : g d2 env2 with
                  | none => rw [hu] at g2; exact g2.elim
                  | some env3 =>
                    rw [hu] at g2
                    refine hg.ok B L ρ2 H3 d2 v2 env2 env3 σ2 _ r2 A2.re hu fun σ3 re3 _ => ?_
                    refine ⟨B, L, ρ2, S2, env3, ⟨A2.rh, re3⟩, ?_⟩
                    revert g2
                    simp only
                    cases f env3 S2 with
                    | nx env' S' => exact fun g σ' ρ' H' p R re => ⟨ρ', S', env', ⟨R, re⟩, p.at hn, GS.step g p⟩
                    | ct env' S' => exact fun g σ' ρ' H' p R re => ⟨ρ', S', env', ⟨R, re⟩, p.at hn, GS.step g p⟩
                    | bk e S' => exact fun g => g
                    | rt e S' => exact fun g => g
                    | xc c S' => exact fun g => g
                    | bad => exact fun g => g
              | _ => exact g2.elim
        | _ => exact gg.elim
    | _ => exact gg.elim
end

/-! ### a, b = x, y -/
section
variable {X : Cx} {w : Wx} {fs : FA} {i j l : Nat} {x y z : Str} {a b c : Expr} {px py pz pt pos : Pos} {kt k2 : Nat} {pt2 : Pos}
theorem ss_par2s (hc : X.calm = true) (hN : X.N.Nodup) (ha : SA X w [a, b] fs) (hij : i ≠ j) (hi : X.N[i]? = some x := by rfl) (hj : X.N[j]? = some y := by rfl)
    (hx : X.env.scope.names.lookup x = some .local := by rfl) (hy : X.env.scope.names.lookup y = some .local := by rfl)
    (hw : swappedStores [.Tuple [.Name x px, .Name y py] kt pt] (.Tuple [a, b] k2 pt2) X.env = pure (some [x, y]) := by rfl)
    (hs : swapsWithSole [.Tuple [.Name x px, .Name y py] kt pt] (.Tuple [a, b] k2 pt2) pos.line X.env = pure false := by rfl) :
    SS X w (.Assign [.Tuple [.Name x px, .Name y py] kt pt] (.Tuple [a, b] k2 pt2) pos) (sPar2 i j fs) :=
  ss_par2 (ps_par hc hN hi hj hij hx hy ha hw hs) fun _ _ _ h => h
theorem ss_par3s (hc : X.calm = true) (hN : X.N.Nodup) (ha : SA X w [a, b, c] fs) (hij : i ≠ j) (hil : i ≠ l) (hjl : j ≠ l) (hi : X.N[i]? = some x := by rfl) (hj : X.N[j]? = some y := by rfl) (hl : X.N[l]? = some z := by rfl)
    (hx : X.env.scope.names.lookup x = some .local := by rfl) (hy : X.env.scope.names.lookup y = some .local := by rfl) (hz : X.env.scope.names.lookup z = some .local := by rfl)
    (hw : swappedStores [.Tuple [.Name x px, .Name y py, .Name z pz] kt pt] (.Tuple [a, b, c] k2 pt2) X.env = pure (some [x, y, z]) := by rfl)
    (hs : swapsWithSole [.Tuple [.Name x px, .Name y py, .Name z pz] kt pt] (.Tuple [a, b, c] k2 pt2) pos.line X.env = pure false := by rfl) :
    SS X w (.Assign [.Tuple [.Name x px, .Name y py, .Name z pz] kt pt] (.Tuple [a, b, c] k2 pt2) pos) (sPar3 i j l fs) :=
  ss_par3 (ps_par3 hc hN hi hj hl hij hil hjl hx hy hz ha hw hs) fun _ _ _ h => h
end

/-! ### names of the module -/
section
variable {X : Cx} {w : Wx} {pos : Pos} {x : Str}
theorem se_globI {i : Int} (h : ∃ t, X.mg x = some (.int i t)) (hg : Gl X x := by rfl) (hd : (x == ("__debug__" : Str)) = false := by decide) : SE X w (.Name x pos) (fCon (.int i)) := by
  obtain ⟨t, h⟩ := h
  exact se_con (pe_glob (v := .int i) hg h ⟨t, rfl⟩ hd) fun _ _ _ => .int i
theorem se_globS {i : Str} (h : ∃ t, X.mg x = some (.str i t)) (hg : Gl X x := by rfl) (hd : (x == ("__debug__" : Str)) = false := by decide) : SE X w (.Name x pos) (fCon (.str i)) := by
  obtain ⟨t, h⟩ := h
  exact se_con (pe_glob (v := .str i) hg h ⟨t, rfl⟩ hd) fun _ _ _ => .str i
theorem se_ty {n : String} (hm : X.mg x = none) (hv : bootBuiltins x = some (.type n)) (hg : Gl X x := by rfl) (hn : x ≠ "__name__" := by decide) (hd : (x == ("__debug__" : Str)) = false := by decide) : SE X w (.Name x pos) (fCon (.glob (.ty n))) :=
  se_con (pe_bltn (v := .ty n) hg hm hv rfl hn hd) fun _ _ _ => .glob (by intro z; cases z)
end
/-- a def as the top has left it -/
structure Df (K : PySem.W.Frag) (mg : Str → Option Value) (x : Str) (st : Stmt) (ps : List Str) (a : Addr) (fd : FuncData) : Prop where
  F : Fun K x x st a fd
  m : mg x = some (.ref a)
  b : Binds K fd ps []

/-! ### the law's end -/
abbrev W0f : XM → Prop := fun _ => True
theorem law_end {l : PySem.W.OpenLaw} {q : Program} {loose : List Str} {XP : (Str → Option Value) → Heap → Prop} {YP : World → Heap → Prop} {d : DefRec} {K : Params → PySem.W.Frag} {x : Str} {k : Nat} {F : Fn} {xm : PySem.W.Frag → XM}
    (hn : l.most = some 63) (hdf : d.params.defaults = []) (hr : Room k callerA)
    (hY : ∀ (w : World) (h : Heap), YP w h → (K w.params).In h)
    (hF : ∀ (w : World) (mg : Str → Option Value) (fa : Addr) (h : Heap), (K w.params).In h → h.Ns mainGlobals mg → mg d.name = some (.ref fa) →
      ∃ fd : FuncData, (∀ (s : Shared) (u : Value), BindsTo s fd ⟨[u], []⟩ [(x, u)]) ∧
        ∀ base : Heap, (K w.params).In base → base.Ns mainGlobals mg → FnOk l.prog w (K w.params) mg base (L2.CX l.prog w) k fa fd [x] (spOf ⟨l.prog, w, K w.params⟩ (xm (K w.params)) 1 F))
    (hT : ∀ ns : List Int, ns.length ≤ 63 → ∃ S', F [.scr (ns.map D.int)] [] = .ok (.bl true) S') :
    PySem.W.WalkO q loose XP YP l.row.toRowW d [] (fun f vs => PySem.call f vs) := by
  refine L2.walk_of (n := 63) (k := k) (x := x) (CX := fun w => L2.CX l.prog w) (sp := fun w => spOf ⟨l.prog, w, K w.params⟩ (xm (K w.params)) 1 F) hn (by decide) hdf hr hY hF (fun w H a ns hl hO hS => ?_) fun w H s e s' h => ?_
  · obtain ⟨S', e⟩ := hT ns hl
    have rvs : ∀ ns : List Int, RVs (K w.params) [] [] H (ns.map D.int) (ns.map V.int) := fun ns => by
      induction ns with
      | nil => exact .nil
      | cons n ns ih => exact .cons (.int n) ih
    refine ⟨rfl, [], [], [], [], [.scr (ns.map D.int)], ⟨rfl, List.nodup_nil, (fun a z => nomatch z), (fun a z => nomatch z), (fun a z => nomatch z), fun n a o h => (by simp at h)⟩, .cons (.scr ?_ (rvs ns)) .nil, ?_⟩
    · exact hS.imp (fun h => ⟨(fun z => nomatch z), (fun z => nomatch z), h⟩) id
    · rw [e]
      intro v ρ' H' p R r
      cases r; rfl
  · obtain ⟨_, _, _, _, _, _, _, _, _, _, _, _, z⟩ := h
    exact z.elim
end Sf
end

section
set_option Elab.async false
set_option maxRecDepth 100000
set_option linter.all false
/-! Sf9: sorted. -/
namespace Sf
open PySem PySem.Spec PyProof.Rows L2
def insI (i : Int) : List Int → List Int
  | [] => [i]
  | j :: l => bif decide (i ≤ j) then i :: j :: l else j :: insI i l
def srtI : List Int → List Int
  | [] => []
  | i :: l => insI i (srtI l)
theorem insI_perm (i : Int) : ∀ l : List Int, (insI i l).Perm (i :: l)
  | [] => List.Perm.refl _
  | j :: l => by
    unfold insI
    cases h : decide (i ≤ j) with
    | true => exact List.Perm.refl _
    | false => exact (List.Perm.cons j (insI_perm i l)).trans (List.Perm.swap i j l)
theorem srtI_perm : ∀ l : List Int, (srtI l).Perm l
  | [] => List.Perm.refl _
  | i :: l => (insI_perm i (srtI l)).trans (List.Perm.cons i (srtI_perm l))
theorem insI_srt (i : Int) : ∀ l : List Int, l.Pairwise (· ≤ ·) → (insI i l).Pairwise (· ≤ ·)
  | [], _ => by simp [insI]
  | j :: l, h => by
    unfold insI
    have h1 := List.pairwise_cons.mp h
    cases c : decide (i ≤ j) with
    | true =>
      have c := of_decide_eq_true c
      refine List.pairwise_cons.mpr ⟨fun x hx => ?_, h⟩
      rcases List.mem_cons.mp hx with rfl | hx
      · exact c
      · have := h1.1 x hx; omega
    | false =>
      have c := of_decide_eq_false c
      refine List.pairwise_cons.mpr ⟨fun x hx => ?_, insI_srt i l h1.2⟩
      rcases List.mem_cons.mp ((insI_perm i l).mem_iff.mp hx) with rfl | hx
      · omega
      · exact h1.1 x hx
theorem srtI_srt : ∀ l : List Int, (srtI l).Pairwise (· ≤ ·)
  | [] => List.Pairwise.nil
  | i :: l => insI_srt i _ (srtI_srt l)
theorem srtI_eq {l m : List Int} (h1 : m.Perm l) (h2 : m.Pairwise (· ≤ ·)) : m = srtI l :=
  List.Perm.eq_of_pairwise (le := (· ≤ ·)) (fun a b _ _ h h' => by omega) h2 (srtI_srt l) (h1.trans (srtI_perm l).symm)
def oSorted : OpN := fun xs S => match xs with
  | [x] => match lsR x S with
    | some l => match intsD l with
      | some ns => some (.lst ((srtI ns).map D.int), S)
      | none => none
    | none => none
  | _ => none
theorem rvs_ints {K : PySem.W.Frag} {B ρ : List Addr} {H : Hp} : ∀ l : List Int, RVs K B ρ H (l.map D.int) (l.map V.int)
  | [] => .nil
  | i :: l => .cons (.int i) (rvs_ints l)
section
variable {X : Cx}
theorem ok_sorted : OkN (pg X) (rSortedI X.K) oSorted := by
  intro B L ρ S S' H ds d' xs Q R r e q
  unfold oSorted at e
  match ds, r, e with
  | [x], .cons r1 .nil, e =>
    simp only at e
    cases e1 : lsR x S with
    | none => rw [e1] at e; cases e
    | some l =>
      rw [e1] at e
      simp only at e
      cases e2 : intsD l with
      | none => rw [e2] at e; cases e
      | some ns =>
        rw [e2] at e; cases e
        obtain ⟨a, vs, rfl, hs, rv⟩ := lsR_ok R r1 e1
        have := intsD_ok rv e2
        subst this
        refine ⟨a, ns, rfl, hs, fun ns' p h1 h2 hp => ?_⟩
        rw [srtI_eq h1 h2]
        exact q _ ρ _ (Post.newV hp) (R.newV hp) (.lst (R.fresh hp).2 (R.fresh hp).1 upd_same (rvs_ints _))
end
end Sf
end

section
set_option Elab.async false
set_option maxRecDepth 100000
set_option linter.all false
/-! Sd1: dicts whose keys are tuples of any depth: their rules. -/
namespace Sf
open PySem PySem.Spec PyProof.Rows L2

/-! the key that a value is -/
mutual
inductive KIs (H : Hp) : NestedKey → V → Prop
  | non : KIs H .none .non
  | int (i : Int) : KIs H (.num i) (.int i)
  | tup {a vs ks} : H a = some (.tup vs) → KIss H ks vs → KIs H (.tup ks) (.ref a)
inductive KIss (H : Hp) : List NestedKey → List V → Prop
  | nil : KIss H [] []
  | cons {k v ks vs} : KIs H k v → KIss H ks vs → KIss H (k :: ks) (v :: vs)
end
mutual
theorem kis_rv {K : PySem.W.Frag} {B ρ : List Addr} {H : Hp} : ∀ (d : D) (v : V) (nk : NestedKey), RV K B ρ H d v → D.key d = some nk → KIs H nk v
  | .und, _, _, h, _ => by cases h
  | .non, _, _, .non, e => by cases e; exact .non
  | .bl _, _, _, _, e => by cases e
  | .int i, _, _, .int _, e => by cases e; exact .int i
  | .str _, _, _, _, e => by cases e
  | .tup l, _, nk, .tup h r, e => by
    unfold D.key at e
    cases q : D.keys l with
    | none => rw [q] at e; cases e
    | some ks => rw [q] at e; cases e; exact .tup h.2.2 (kiss_rv l _ ks r q)
  | .lst _, _, _, _, e => by cases e
  | .scr _, _, _, _, e => by cases e
  | .loc _, _, _, _, e => by cases e
  | .glob _, _, _, _, e => by cases e
theorem kiss_rv {K : PySem.W.Frag} {B ρ : List Addr} {H : Hp} : ∀ (l : List D) (vs : List V) (ks : List NestedKey), RVs K B ρ H l vs → D.keys l = some ks → KIss H ks vs
  | [], _, _, .nil, e => by unfold D.keys at e; cases e; exact .nil
  | d :: l, _, ks, .cons h t, e => by
    unfold D.keys at e
    cases q : D.key d with
    | none => rw [q] at e; cases e
    | some k =>
      cases q' : D.keys l with
      | none => rw [q, q'] at e; cases e
      | some ks' => rw [q, q'] at e; cases e; exact .cons (kis_rv d _ k h q) (kiss_rv l _ ks' t q')
end
mutual
theorem nested_of {P : Program} {w : World} {H : Hp} {h : Heap} (ok : HOk P w H h) : ∀ (nk : NestedKey) (v : V) (u : Value), KIs H nk v → RelV v u → NestedIs h nk u
  | .none, _, u, .non, r => by cases (show u = Value.none from r); exact .none
  | .num i, _, u, .int _, r => by obtain ⟨t, rfl⟩ := r; exact .int i t
  | .text _, _, _, k, _ => by cases k
  | .tup ks, _, u, .tup (a := a) (vs := vs) e t, r => by
    cases (show u = Value.ref a from r)
    obtain ⟨z, its, rv, p⟩ := ok a _ e
    obtain ⟨o, ho, hc, n, hd⟩ := id p
    exact .tup ho hc hd (by simpa using nesteds_of ok ks vs its t rv)
theorem nesteds_of {P : Program} {w : World} {H : Hp} {h : Heap} (ok : HOk P w H h) : ∀ (ks : List NestedKey) (vs : List V) (us : List Value), KIss H ks vs → Vals vs us → NestedAll h ks us
  | [], _, _, .nil, .nil => .nil
  | k :: ks, _, _, .cons h1 h2, .cons r t => .cons (nested_of ok k _ _ h1 r) (nesteds_of ok ks _ _ h2 t)
end
abbrev Ent := NestedKey × Addr × V
def KEnt (H : Hp) (e : Ent) : Prop := KIs H e.1 (.ref e.2.1) ∧ e.1.depth ≤ 8
theorem KEnt.is {P : Program} {w : World} {H : Hp} {h : Heap} (ok : HOk P w H h) {nk : NestedKey} {a : Addr} (k : KIs H nk (.ref a)) (hd : nk.depth ≤ 8) : (nestedKind P w).is h nk a :=
  ⟨nested_of ok nk _ _ k (show RelV (.ref a) (.ref a) from rfl), hd⟩
def valX (ents : List Ent) (k : NestedKey) : Option V := (ents.find? fun e => decide (e.1 = k)).map (·.2.2)
def putX (ents : List Ent) (k : NestedKey) (a : Addr) (v : V) : List Ent := if (valX ents k).isSome then ents.map (fun e => if e.1 = k then (e.1, e.2.1, v) else e) else ents ++ [(k, a, v)]
abbrev PX : Ent → NestedKey × Addr × Value → Prop := fun p q => p.1 = q.1 ∧ p.2.1 = q.2.1 ∧ RelV p.2.2 q.2.2
theorem relO_valX {k : NestedKey} : ∀ {ents : List Ent} {xs : List (NestedKey × Addr × Value)}, Paired PX ents xs → RelO (valX ents k) ((atKey xs k).map (·.2))
  | _, _, .nil => by simp [valX, atKey, RelO]
  | _, _, .cons (a := p) (b := q) (l₁ := l) (l₂ := m) r t => by
    have ih := relO_valX (k := k) t
    unfold valX atKey at ih ⊢
    rw [List.find?_cons, List.find?_cons, ← r.1]
    by_cases h : p.1 = k
    · rw [decide_eq_true h]; exact r.2.2
    · rw [decide_eq_false h]; exact ih
theorem Paired.map2 {α β γ δ : Type} {F : α → β → Prop} {G : γ → δ → Prop} {f : α → γ} {g : β → δ} : ∀ {l : List α} {m : List β}, Paired F l m → (∀ a b, F a b → G (f a) (g b)) → Paired G (l.map f) (m.map g)
  | _, _, .nil, _ => .nil
  | _, _, .cons r t, h => .cons (h _ _ r) (Paired.map2 t h)
theorem Paired.snoc {α β : Type} {F : α → β → Prop} {a : α} {b : β} (r : F a b) : ∀ {l : List α} {m : List β}, Paired F l m → Paired F (l ++ [a]) (m ++ [b])
  | _, _, .nil => .cons r .nil
  | _, _, .cons h t => .cons h (Paired.snoc r t)
theorem paired_put {k : NestedKey} {a : Addr} {v : V} {u : Value} {ents : List Ent} {xs : List (NestedKey × Addr × Value)} (h : Paired PX ents xs) (r : RelV v u) : Paired PX (putX ents k a v) (storedH xs k a u) := by
  have e := (relO_valX (k := k) h).isSome_eq
  rw [Option.isSome_map] at e
  unfold putX storedH
  rw [e]
  split
  · exact Paired.map2 h fun p q h1 => by
      unfold putAt
      rw [← h1.1]
      show PX (if p.1 = k then (p.1, p.2.1, v) else p) _
      by_cases hk : p.1 = k
      · rw [if_pos hk, if_pos hk]; exact ⟨rfl, h1.2.1, r⟩
      · rw [if_neg hk, if_neg hk]; exact h1
  · exact Paired.snoc ⟨rfl, rfl, r⟩ h
section
variable {P : Program} {w : World} {H : Hp} {h : Heap} {a : Addr} {ents : List Ent}
theorem dx_rd (ok : HOk P w H h) (e : Rd H a (dx P w a ents)) : DctRaw P w a ents h := (rd_of ok e : ObjOk P w H h a (.ext (DctRaw P w a ents))).1
theorem paired_mem {α β : Type} {F : α → β → Prop} : ∀ {l : List α} {m : List β}, Paired F l m → ∀ y ∈ m, ∃ x ∈ l, F x y
  | _, _, .nil, y, h => nomatch h
  | _, _, .cons r t, y, h => by
    rcases List.mem_cons.mp h with e | h
    · subst e; exact ⟨_, by simp, r⟩
    · obtain ⟨x, hx, q⟩ := paired_mem t y h; exact ⟨x, by simp [hx], q⟩
theorem paired_keys : ∀ {ents : List Ent} {xs : List (NestedKey × Addr × Value)}, Paired PX ents xs → ents.map (·.1) = xs.map (·.1)
  | _, _, .nil => rfl
  | _, _, .cons r t => by rw [List.map_cons, List.map_cons, r.1, paired_keys t]
theorem dx_at (ok : HOk P w H h) (e : Rd H a (dx P w a ents)) (ke : ∀ x ∈ ents, KEnt H x) : ents.length ≤ sizeLine ∧ (a == sysModules) = false ∧ ∃ xs, Paired PX ents xs ∧ h.DictOfH (nestedKind P w) a xs := by
  obtain ⟨z, y, nd, xs, r, o, es, ep, h1, h2, h3, h4⟩ := dx_rd ok e
  refine ⟨z, y, xs, r, o, es, ep, h1, h2, h3, h4, fun q hq => ?_, by rw [← paired_keys r]; exact nd⟩
  obtain ⟨p, hp, e1, e2, _⟩ := paired_mem r q hq
  have k := ke p hp
  rw [← e1, ← e2]
  exact KEnt.is ok k.1 k.2
theorem dx_new {H' : Hp} {h' : Heap} {xs : List (NestedKey × Addr × Value)} (z : ents.length ≤ sizeLine) (hd : (a == sysModules) = false) (r : Paired PX ents xs) (dd : h'.DictOfH (nestedKind P w) a xs) : ObjOk P w H' h' a (dx P w a ents) := by
  obtain ⟨o, es, ep, h1, h2, h3, h4, _, h5⟩ := dd
  refine ⟨⟨z, hd, by rw [paired_keys r]; exact h5, xs, r, o, es, ep, h1, h2, h3, h4⟩, ⟨o, h1⟩, fun g1 g2 hg k => ?_⟩
  obtain ⟨z, y, nd, xs, r, o, es, ep, h1, h2, h3, h4⟩ := hg
  exact ⟨z, y, nd, xs, r, o, es, ep, k o h1, h2, h3, h4⟩
end
theorem length_putX (ents : List Ent) (k : NestedKey) (b : Addr) (v : V) : (putX ents k b v).length ≤ ents.length + 1 := by
  unfold putX; split <;> simp
/-- what the dict at a holds at the key y -/
def XGet (P : Program) (w : World) (H : Hp) (a : Addr) (y : V) (r : Option V) : Prop :=
  ∃ ents nk b, Rd H a (dx P w a ents) ∧ (∀ x ∈ ents, KEnt H x) ∧ y = .ref b ∧ KEnt H (nk, b, .non) ∧ r = valX ents nk
def XPut (P : Program) (w : World) (H : Hp) (a : Addr) (y v : V) (H' : Hp) : Prop :=
  ∃ ents nk b, H a = some (dx P w a ents) ∧ (∀ x ∈ ents, KEnt H x) ∧ y = .ref b ∧ KEnt H (nk, b, .non) ∧ ents.length < sizeLine ∧ H' = upd H a (dx P w a (putX ents nk b v))
section
variable {X : Cx} {pins : List (Addr × Obj)} {σ : L2.St} {H : Hp} {s : Shared} {a : Addr} {y v d : V} {u r : Value} {o : Option V} {A : Around} {E : Value → Shared → Prop}
theorem room_x (hu : A.units + 9 < cLine) : (nestedKind X.prog X.w).room A.in1 := by show A.units + 1 + 8 < cLine; omega
theorem xd_getItem {Q : Value → Shared → Prop} (hu : A.units + 9 < cLine) (I : Inv X pins σ H s) (g : XGet X.prog X.w H a y (some v)) (ry : RelV y u) (h : ∀ w' s', Inv X pins σ H s' → RelV v w' → Q w' s') :
    wpAny (model X.prog X.w) A (getItem (.ref a) u) Q E s := by
  obtain ⟨ents, nk, b, e, ke, ey, kb, l⟩ := g
  subst ey
  cases (show u = Value.ref b from ry)
  obtain ⟨z, hd, xs, rel, dd⟩ := dx_at I.hok e ke
  obtain ⟨w', hw, rw'⟩ := RelO.some_of (v := v) (o := (atKey xs nk).map (·.2)) (by rw [l]; exact relO_valX rel)
  obtain ⟨p, hp, hp2⟩ := Option.map_eq_some_iff.mp hw
  refine wpAny_getItem_heap (room_x hu) (KEnt.is I.hok kb.1 kb.2) dd hp ?_
  rw [hp2]
  exact h w' _ (I.tok _) rw'
theorem xd_in {Q : Value → Shared → Prop} (hu : A.units + 9 < cLine) (I : Inv X pins σ H s) (g : XGet X.prog X.w H a y o) (ry : RelV y u) (h : ∀ s', Inv X pins σ H s' → Q (.bool o.isSome) s') :
    wpAny (model X.prog X.w) A (compareOp .In u (.ref a)) Q E s := by
  obtain ⟨ents, nk, b, e, ke, ey, kb, l⟩ := g
  subst ey
  cases (show u = Value.ref b from ry)
  obtain ⟨z, hd, xs, rel, dd⟩ := dx_at I.hok e ke
  refine wpAny_in_heap (room_x hu) (KEnt.is I.hok kb.1 kb.2) hd dd ?_
  have q := (relO_valX (k := nk) rel).isSome_eq
  rw [Option.isSome_map] at q
  rw [← q, ← l]
  exact h _ (I.tok _)
theorem xd_notIn {Q : Value → Shared → Prop} (hu : A.units + 9 < cLine) (I : Inv X pins σ H s) (g : XGet X.prog X.w H a y o) (ry : RelV y u) (h : ∀ s', Inv X pins σ H s' → Q (.bool (!o.isSome)) s') :
    wpAny (model X.prog X.w) A (compareOp .NotIn u (.ref a)) Q E s := by
  obtain ⟨ents, nk, b, e, ke, ey, kb, l⟩ := g
  subst ey
  cases (show u = Value.ref b from ry)
  obtain ⟨z, hd, xs, rel, dd⟩ := dx_at I.hok e ke
  refine wpAny_notIn_heap (room_x hu) (KEnt.is I.hok kb.1 kb.2) hd dd ?_
  have q := (relO_valX (k := nk) rel).isSome_eq
  rw [Option.isSome_map] at q
  rw [← q, ← l]
  exact h _ (I.tok _)
theorem xd_get2 {Q : Value → Shared → Prop} (hu : A.units + 9 < cLine) (I : Inv X pins σ H s) (g : XGet X.prog X.w H a y o) (ry : RelV y u) (rd : RelV d r) (h : ∀ w' s', Inv X pins σ H s' → RelV (o.getD d) w' → Q w' s') :
    wpAny (model X.prog X.w) A (call (.builtin "dict.get") [.ref a, u, r]) Q E s := by
  obtain ⟨ents, nk, b, e, ke, ey, kb, l⟩ := g
  subst ey
  cases (show u = Value.ref b from ry)
  obtain ⟨z, hd, xs, rel, dd⟩ := dx_at I.hok e ke
  refine call_meetsIn PySem.F.slot_dict_get dd.typeIs PySem.F.entry_dict_get (PySem.F.args_dict_get_3 _ _ _) (meetsH_dict_get_default (nestedKind X.prog X.w) a b hd r) ⟨room_x hu, nk, xs, KEnt.is I.hok kb.1 kb.2, dd, h _ _ (I.tok _) ?_⟩
  rw [l]
  exact (relO_valX (k := nk) rel).getD rd
theorem xd_setItem {H' : Hp} {Q : Unit → Shared → Prop} (hu : A.units + 9 < cLine) (I : Inv X pins σ H s) (g : XPut X.prog X.w H a y v H') (ry : RelV y u) (rv : RelV v r) (h : ∀ s', Inv X pins σ H' s' → Q () s') :
    wpAny (model X.prog X.w) A (setItem (.ref a) u r) Q E s := by
  obtain ⟨ents, nk, b, e, ke, ey, kb, l, eH⟩ := g
  subst ey eH
  cases (show u = Value.ref b from ry)
  obtain ⟨z, hd, xs, rel, dd⟩ := dx_at I.hok (.inl e) ke
  have hz : xs.length ≤ sizeLine := by rw [← Paired.length rel]; exact z
  have hl : (putX ents nk b v).length ≤ sizeLine := by have := length_putX ents nk b v; omega
  refine wpAny_setItem_heap (hsz := hz) (room_x hu) (KEnt.is I.hok kb.1 kb.2) dd fun h' dd' hs => h _ ?_
  obtain ⟨q, es, ep, hq, _⟩ := id dd'
  exact d_write I (by rw [e]; exact True.intro) hs ⟨q, hq⟩ (dx_new hl hd (paired_put rel rv) dd')
theorem xd_typeIs (I : Inv X pins σ H s) {ents : List Ent} (e : Rd H a (dx X.prog X.w a ents)) : s.TypeIs (.ref a) "dict" ∧ (∀ b, Value.ref a = .ref b → ∃ ob, s.heap.get? b = some ob ∧ ob.dict = none) ∧ (a == sysModules) = false := by
  obtain ⟨z, y, nd, xs, r, o, es, ep, h1, h2, h3, h4⟩ := dx_rd I.hok e
  refine ⟨⟨o, h1, h2.1⟩, fun b q => ?_, y⟩
  cases q
  exact ⟨o, h1, h2.2.1⟩
/-- {} -/
theorem dx_empty {P : Program} {w : World} {H : Hp} (h : Heap) (hb : sysModules < h.objs.size) : ObjOk P w H (h.push { cls := .type "dict", data := .dict #[] }) h.objs.size (dx P w h.objs.size []) :=
  dx_new (Nat.zero_le _) (beq_eq_false_iff_ne.mpr (Ne.symm (Nat.ne_of_lt hb))) .nil (Heap.DictOfH.new h)
end
end Sf
end

section
set_option Elab.async false
set_option maxRecDepth 100000
set_option linter.all false
/-! Sd2: dicts of the store: reading, writing. -/
namespace Sf
open PySem PySem.Spec PyProof.Rows L2

def keyEq (a b : D) : Bool := match D.key a, D.key b with
  | some x, some y => NestedKey.beq x y
  | _, _ => false
def isT : D → Bool
  | .tup _ => true
  | _ => false
def keyOk (k : D) : Bool := isT k && (match D.key k with
  | some nk => Nat.ble nk.depth 8
  | none => false)
def getX (kvs : List (D × D)) (k : D) : Option D := (kvs.find? fun p => keyEq p.1 k).map (·.2)
def putXD (kvs : List (D × D)) (k v : D) : List (D × D) := bif (getX kvs k).isSome then kvs.map (fun p => bif keyEq p.1 k then (p.1, v) else p) else kvs ++ [(k, v)]
def getI (kvs : List (Int × D)) (k : Int) : Option D := (kvs.find? fun p => decide (p.1 = k)).map (·.2)
def putI (kvs : List (Int × D)) (k : Int) (v : D) : List (Int × D) := bif (getI kvs k).isSome then kvs.map (fun p => bif decide (p.1 = k) then (p.1, v) else p) else kvs ++ [(k, v)]
theorem keyOk_ok {k : D} (h : keyOk k = true) : ∃ l nk, k = .tup l ∧ D.key k = some nk ∧ nk.depth ≤ 8 := by
  unfold keyOk at h
  rw [Bool.and_eq_true] at h
  obtain ⟨h1, h2⟩ := h
  cases k with
  | tup l =>
    cases q : D.key (.tup l) with
    | none => rw [q] at h2; cases h2
    | some nk => rw [q] at h2; exact ⟨l, nk, rfl, rfl, Nat.le_of_ble_eq_true h2⟩
  | _ => cases h1
section
variable {G : Pg} {B L ρ : List Addr} {S S' : Sto} {H : Hp}
theorem rks_kent : ∀ {kvs : List (D × D)} {ents : List Ent}, RKs G B ρ H kvs ents → ∀ e ∈ ents, KEnt H e
  | _, _, .nil, e, h => nomatch h
  | _, _, .cons h1 h2 h3 _ r, e, h => by
    rcases List.mem_cons.mp h with q | h
    · subst q; exact ⟨kis_rv _ _ _ h2 h1, h3⟩
    · exact rks_kent r e h
theorem rks_val {k : D} {nk : NestedKey} (hk : D.key k = some nk) : ∀ {kvs : List (D × D)} {ents : List Ent}, RKs G B ρ H kvs ents →
    (getX kvs k = none ∧ valX ents nk = none) ∨ ∃ d v, getX kvs k = some d ∧ valX ents nk = some v ∧ RV G.K B ρ H d v
  | _, _, .nil => .inl ⟨rfl, rfl⟩
  | _, _, .cons (k := k') (d := d) (nk := nk') (ka := ka) (v := v) h1 h2 h3 h4 r => by
    have ih := rks_val hk r
    have e : keyEq k' k = decide (nk' = nk) := by unfold keyEq; rw [h1, hk]; exact (NestedKey.decide_eq nk' nk).symm
    unfold getX valX at ih ⊢
    rw [List.find?_cons, List.find?_cons]
    show (_ ∧ _) ∨ _
    rw [e]
    by_cases c : nk' = nk
    · simp only [c, decide_true]; exact .inr ⟨d, v, rfl, rfl, h4⟩
    · simp only [c, decide_false]; exact ih
theorem rks_map {k d : D} {nk : NestedKey} {v : V} (hk : D.key k = some nk) (rv : RV G.K B ρ H d v) : ∀ {kvs : List (D × D)} {ents : List Ent}, RKs G B ρ H kvs ents →
    RKs G B ρ H (kvs.map fun p => bif keyEq p.1 k then (p.1, d) else p) (ents.map fun e => if e.1 = nk then (e.1, e.2.1, v) else e)
  | _, _, .nil => .nil
  | _, _, .cons (k := k') (d := d') (nk := nk') (ka := ka) (v := v') h1 h2 h3 h4 r => by
    have e : keyEq k' k = decide (nk' = nk) := by unfold keyEq; rw [h1, hk]; exact (NestedKey.decide_eq nk' nk).symm
    rw [List.map_cons, List.map_cons]
    simp only [e]
    by_cases c : nk' = nk
    · rw [decide_eq_true c, if_pos c]; exact .cons h1 h2 h3 rv (rks_map hk rv r)
    · rw [decide_eq_false c, if_neg c]; exact .cons h1 h2 h3 h4 (rks_map hk rv r)
theorem rks_app : ∀ {kvs kvs' : List (D × D)} {ents ents' : List Ent}, RKs G B ρ H kvs ents → RKs G B ρ H kvs' ents' → RKs G B ρ H (kvs ++ kvs') (ents ++ ents')
  | _, _, _, _, .nil, s => s
  | _, _, _, _, .cons h1 h2 h3 h4 r, s => .cons h1 h2 h3 h4 (rks_app r s)
theorem rks_put {k d : D} {nk : NestedKey} {ka : Addr} {v : V} (hk : D.key k = some nk) (rk : RV G.K B ρ H k (.ref ka)) (hd : nk.depth ≤ 8) (rv : RV G.K B ρ H d v) {kvs : List (D × D)} {ents : List Ent} (r : RKs G B ρ H kvs ents) :
    RKs G B ρ H (putXD kvs k d) (putX ents nk ka v) := by
  unfold putXD putX
  rcases rks_val hk r with ⟨h1, h2⟩ | ⟨d', v', h1, h2, _⟩
  · rw [h1, h2]
    exact rks_app r (.cons hk rk hd rv .nil)
  · rw [h1, h2]
    exact rks_map hk rv r
theorem rks_len : ∀ {kvs : List (D × D)} {ents : List Ent}, RKs G B ρ H kvs ents → kvs.length = ents.length
  | _, _, .nil => rfl
  | _, _, .cons _ _ _ _ r => by rw [List.length_cons, List.length_cons, rks_len r]
theorem ris_val {i : Int} : ∀ {kvs : List (Int × D)} {ents : List (L2.Key × V)}, RIs G B ρ H kvs ents →
    (getI kvs i = none ∧ valV ents (Sum.inl i) = none) ∨ ∃ d v, getI kvs i = some d ∧ valV ents (Sum.inl i) = some v ∧ RV G.K B ρ H d v
  | _, _, .nil => .inl ⟨rfl, rfl⟩
  | _, _, .cons (i := j) (d := d) (v := v) h4 r => by
    have ih := ris_val (i := i) r
    unfold getI valV at ih ⊢
    rw [List.find?_cons, List.find?_cons]
    have e : decide ((Sum.inl j : L2.Key) = Sum.inl i) = decide (j = i) := by simp
    show (_ ∧ _) ∨ _
    simp only [e]
    by_cases c : j = i
    · simp only [c, decide_true]; exact .inr ⟨d, v, rfl, rfl, h4⟩
    · simp only [c, decide_false]; exact ih
theorem ris_map {i : Int} {d : D} {v : V} (rv : RV G.K B ρ H d v) : ∀ {kvs : List (Int × D)} {ents : List (L2.Key × V)}, RIs G B ρ H kvs ents →
    RIs G B ρ H (kvs.map fun p => bif decide (p.1 = i) then (p.1, d) else p) (ents.map fun e => if e.1 = Sum.inl i then (e.1, v) else e)
  | _, _, .nil => .nil
  | _, _, .cons (i := j) (d := d') (v := v') h4 r => by
    rw [List.map_cons, List.map_cons]
    by_cases c : j = i
    · simp only [c, decide_true, if_true]; exact .cons rv (ris_map rv r)
    · have c' : ¬ ((Sum.inl j : L2.Key) = Sum.inl i) := fun z => c (by cases z; rfl)
      simp only [c, c', decide_false, if_false]; exact .cons h4 (ris_map rv r)
theorem ris_app : ∀ {kvs kvs' : List (Int × D)} {ents ents' : List (L2.Key × V)}, RIs G B ρ H kvs ents → RIs G B ρ H kvs' ents' → RIs G B ρ H (kvs ++ kvs') (ents ++ ents')
  | _, _, _, _, .nil, s => s
  | _, _, _, _, .cons h4 r, s => .cons h4 (ris_app r s)
theorem any_valV {κ : Type} [DecidableEq κ] (kvs : List (κ × V)) (k : κ) : (kvs.any fun kv => decide (kv.1 = k)) = (valV kvs k).isSome := by
  unfold valV
  induction kvs with
  | nil => rfl
  | cons p l ih =>
    rw [List.any_cons, List.find?_cons]
    by_cases c : p.1 = k
    · simp [c]
    · simp only [c, decide_false, Bool.false_or]; exact ih
theorem ris_put {i : Int} {d : D} {v : V} (rv : RV G.K B ρ H d v) {kvs : List (Int × D)} {ents : List (L2.Key × V)} (r : RIs G B ρ H kvs ents) : RIs G B ρ H (putI kvs i d) (putK ents (Sum.inl i) v) := by
  unfold putI putK
  rw [any_valV]
  rcases ris_val (i := i) r with ⟨h1, h2⟩ | ⟨d', v', h1, h2, _⟩
  · rw [h1, h2]; exact ris_app r (.cons rv .nil)
  · rw [h1, h2]; exact ris_map rv r
theorem ris_len : ∀ {kvs : List (Int × D)} {ents : List (L2.Key × V)}, RIs G B ρ H kvs ents → kvs.length = ents.length
  | _, _, .nil => rfl
  | _, _, .cons _ r => by rw [List.length_cons, List.length_cons, ris_len r]
theorem lk_rd {lk : Bool} {a : Addr} {u : HO} (h : LkAt L H lk a u) : Rd H a u := by
  unfold LkAt at h
  split at h
  · obtain ⟨_, od, e⟩ := h; exact .inr ⟨od, e⟩
  · exact .inl h
end
end Sf
end

section
set_option Elab.async false
set_option maxRecDepth 100000
set_option linter.all false
/-! Sd3: dicts: displays, d[k], k in d, d.get(k, x), d[k] = v. -/
namespace Sf
open PySem PySem.Spec PyProof.Rows L2
theorem RH.addX {G : Pg} {B ρ L : List Addr} {H : Hp} {S : Sto} {p : Addr} {ob : Ob} (R : RH G (p :: B) L ρ H S) (hb : p ∉ B) (q : RO G B L (ρ ++ [p]) H p ob) : RH G B L (ρ ++ [p]) H (S ++ [ob]) := by
  have hB : ∀ a, a ∈ B ∨ a ∈ ρ ++ [p] → a ∈ p :: B ∨ a ∈ ρ := fun a z => z.elim (fun z => .inl (List.mem_cons_of_mem _ z)) fun z => (List.mem_append.mp z).elim .inr fun z => .inl (by simp at z; rw [z]; exact List.mem_cons_self)
  have hp : ∀ (n : Nat) (a : Addr), ρ[n]? = some a → (ρ ++ [p])[n]? = some a := fun n a z => by rw [List.getElem?_append_left (List.getElem?_eq_some_iff.mp z).1]; exact z
  refine ⟨by simp [R.len], ?_, fun a ha => (List.mem_append.mp ha).elim (fun z q => R.dj a z (List.mem_cons_of_mem _ q)) fun z => by simp at z; rw [z]; exact hb, fun b hb => R.avo b (List.mem_cons_of_mem _ hb), R.lk, fun n a o h1 h2 => ?_⟩
  · rw [List.nodup_append]
    refine ⟨R.nd, by simp, fun a ha b hb => ?_⟩
    simp at hb; subst hb
    rintro rfl
    exact R.dj _ ha List.mem_cons_self
  · by_cases hn : n < ρ.length
    · rw [List.getElem?_append_left hn] at h1
      rw [List.getElem?_append_left (by rw [← R.len]; exact hn)] at h2
      exact (R.ob n a o h1 h2).re hB hp
    · have hn' : n = ρ.length := by
        have := (List.getElem?_eq_some_iff.mp h1).1
        simp at this; omega
      subst hn'
      rw [List.getElem?_append_right (Nat.le_refl _)] at h1
      rw [R.len, List.getElem?_append_right (Nat.le_refl _)] at h2
      simp at h1 h2
      subst h1; subst h2
      exact q
section
variable {prog : Program} {w : World} {K : Type} [DecidableEq K] {knd : HeapKind prog w K} {A : Around} {E : Value → Shared → Prop} {s : Shared} {env : Env}
/-- a display: the entries with their keys' places -/
theorem wpAny_Dict_pairsH1 {keys : List (Option Expr)} {values : List Expr} {pos : Pos} {Q : Value → Shared → Prop} (hu : knd.room A)
    (hall : keys.all (·.isSome) = true) (hl : keys.length = values.length) (h0 : keys ≠ []) (hlen : keys.length ≤ 15)
    (h : wpAny (model prog w) A (evalPairs (pairTrees keys values env pos)) (fun vs s₁ => ∃ ps, CarriesH knd s₁.heap vs ps ∧ s₁.heap.DictOfH knd s.heap.objs.size [] ∧
      ∀ h' tk, h'.DictOfH knd s.heap.objs.size (storedAllH [] ps) → Heap.SameBut s.heap.objs.size s₁.heap h' → Q (.ref s.heap.objs.size) { s₁ with heap := h', toks := tk }) E
      { s with heap := s.heap.push { cls := .type "dict", data := .dict #[] } }) :
    wpAny (model prog w) A (eval (.Dict keys values pos) env) Q E s := by
  have hn := pairTrees_length keys values env pos hall hl
  have hne : pairTrees keys values env pos ≠ [] := fun he => by rw [he] at hn; exact h0 (List.length_eq_zero_iff.mp hn.symm)
  rw [arm_eval_Dict, zip_pairTrees keys values env pos hall hl, dictDisplay_pairs _ hne (by rw [hn]; omega)]
  exact wpAny_bind (wpAny_standAt (wpAny_bind (wpAny_subDictH (knd := knd) (Q := fun d s' => wpAny (model prog w) A (pure (Value.ref d)) Q E s') hu (by rw [hn]; exact hlen)
    (wpAny_mono h (fun vs s₁ h₁ => by obtain ⟨ps, hc, hm, hq⟩ := h₁; exact ⟨ps, hc, hm, fun h' tk a b => wpAny_pure (hq h' tk a b)⟩) fun _ _ e => e))))
end
def fDct0 : FE := fun _ S => .ok (.loc S.length) (S ++ [.dct false []])
def fDki0 : FE := fun _ S => .ok (.loc S.length) (S ++ [.dki false []])
def fDct1 (fk fv : FE) : FE := fun env S => match fk env S with
  | .ok k S1 => (match fv env S1 with
    | .ok v S2 => bif keyOk k then .ok (.loc S2.length) (S2 ++ [.dct false [(k, v)]]) else .bad
    | _ => .bad)
  | _ => .bad
section
variable {X : Cx} {w : Wx} {pos : Pos}
theorem loc_last {ρ : List Addr} {S : Sto} {p : Addr} (h : ρ.length = S.length) : (ρ ++ [p])[S.length]? = some p := by
  rw [← h, List.getElem?_append_right (Nat.le_refl _)]; simp
theorem se_dct0 : SE X w (.Dict [] [] pos) fDct0 := ⟨fun pins s σ H Q I ⟨B, L, ρ, S, env, A, g⟩ =>
  wpAny_Dict_empty ⟨.ref s.heap.objs.size, _, I.laid (a := s.heap.objs.size) (o := dx X.prog X.w s.heap.objs.size []) (t' := s.toks) (fun _ _ q => Heap.get?_push_of_some _ q) (Nat.le_refl _) (dx_empty s.heap I.big), rfl, by
    have hp := I.hok.fresh (Nat.le_refl s.heap.objs.size)
    exact g _ (ρ ++ [s.heap.objs.size]) _ (Post.newL hp) (A.rh.newL hp ⟨[], upd_same, .nil⟩) (.loc (loc_last A.rh.len))⟩⟩
theorem se_dki0 : SE X w (.Dict [] [] pos) fDki0 := ⟨fun pins s σ H Q I ⟨B, L, ρ, S, env, A, g⟩ =>
  wpAny_Dict_empty ⟨.ref s.heap.objs.size, _, I.laid (a := s.heap.objs.size) (o := .dK []) (t' := s.toks) (fun _ _ q => Heap.get?_push_of_some _ q) (Nat.le_refl _) (dk_empty s.heap I.big), rfl, by
    have hp := I.hok.fresh (Nat.le_refl s.heap.objs.size)
    exact g _ (ρ ++ [s.heap.objs.size]) _ (Post.newL hp) (A.rh.newL hp ⟨[], upd_same, .nil⟩) (.loc (loc_last A.rh.len))⟩⟩
theorem se_dct1 {k v : Expr} {fk fv : FE} (hu : X.A.units + 9 < cLine) (hk : SE X w k fk) (hv : SE X w v fv) : SE X w (.Dict [some k] [v] pos) (fDct1 fk fv) := by
  refine ⟨fun pins s σ H Q I ⟨B, L, ρ, S, env, A, g⟩ => ?_⟩
  have hp := I.hok.fresh (Nat.le_refl s.heap.objs.size)
  have I1 := I.laid (a := s.heap.objs.size) (o := dx X.prog X.w s.heap.objs.size []) (h' := s.heap.push { cls := .type "dict", data := .dict #[] }) (t' := s.toks) (fun _ _ q => Heap.get?_push_of_some _ q) (Nat.le_refl _) (dx_empty s.heap I.big)
  generalize hpe : s.heap.objs.size = p at *
  have hpB : p ∉ B := (A.rh.fresh hp).2
  have hpρ : p ∉ ρ := (A.rh.fresh hp).1
  have hpL : p ∉ L := fun z => by obtain ⟨o, u, q⟩ := A.rh.lk p z; rw [hp] at q; cases q
  have A1 : At (pg X) (p :: B) L ρ S env σ (upd H p (dx X.prog X.w p [])) := ⟨A.rh.addB hp, A.re.addB hp⟩
  have P1 : Post L ρ H ρ (upd H p (dx X.prog X.w p [])) := Post.newV hp
  unfold fDct1 at g
  cases h1 : fk env S with
  | exc c S1 => rw [h1] at g; exact g.elim
  | bad => rw [h1] at g; exact g.elim
  | ok dk S1 =>
  rw [h1] at g
  simp only at g
  cases h2 : fv env S1 with
  | exc c S2 => rw [h2] at g; exact g.elim
  | bad => rw [h2] at g; exact g.elim
  | ok dv S2 =>
  rw [h2] at g
  simp only at g
  cases h3 : keyOk dk with
  | false => rw [h3] at g; exact g.elim
  | true =>
  rw [h3] at g
  obtain ⟨lk, nk, rfl, hnk, hd⟩ := keyOk_ok h3
  refine wpAny_Dict_pairsH1 (knd := nestedKind X.prog X.w) (show X.A.units + 8 < cLine by omega) (by simp) rfl (by simp) (by simp) ?_
  rw [hpe]
  refine pairTrees_cons_walk (thn (hk.run pins _ σ _ (fun x H' => ∃ ρ', Post L ρ (upd H p (dx X.prog X.w p [])) ρ' H' ∧ RH (pg X) (p :: B) L ρ' H' S1 ∧ RV X.K (p :: B) ρ' H' (.tup lk) x) I1 ⟨p :: B, L, ρ, S, env, A1, ?_⟩) fun u1 s1 ⟨x, H1, I2, r1, ρ1, P2, R2, rk⟩ =>
    thn (hv.run pins s1 σ H1 (fun y H' => ∃ ρ', Post L ρ1 H1 ρ' H' ∧ RH (pg X) (p :: B) L ρ' H' S2 ∧ RV X.K (p :: B) ρ' H' dv y) I2 ⟨p :: B, L, ρ1, S1, env, A1.step P2 R2, ?_⟩) fun u2 s2 ⟨y, H2, I3, r2, ρ2, P3, R3, rv⟩ => pairTrees_nil_walk ?_)
  · rw [h1]; exact fun v ρ' H' p' R r => ⟨ρ', p', R, r⟩
  · rw [h2]; exact fun v ρ' H' p' R r => ⟨ρ', p', R, r⟩
  · have rk2 := rk.mono P3
    cases rk2 with
    | @tup ka vs _ hka hks =>
    cases (show u1 = Value.ref ka from r1)
    have kb : KEnt H2 (nk, ka, y) := ⟨kis_rv _ _ _ (.tup hka hks) hnk, hd⟩
    have e2 : H2 p = some (dx X.prog X.w p []) := by
      have hp1 : p ∉ ρ1 := fun z => R2.dj p z List.mem_cons_self
      exact P3.ext p _ (.inl hp1) (P2.ext p _ (.inl hpρ) upd_same)
    have hp2 : p ∉ ρ2 := fun z => R3.dj p z List.mem_cons_self
    obtain ⟨z, hsy, xs, rel, dd⟩ := dx_at I3.hok (.inl e2) (fun e he => nomatch he)
    cases rel
    refine ⟨[(nk, ka, u2)], ⟨rfl, rfl, KEnt.is I3.hok kb.1 kb.2, trivial⟩, dd, fun h' tk dd' hs => ?_⟩
    obtain ⟨q, es, ep, hq, _⟩ := id dd'
    have I4 := d_write (t' := tk) I3 (a := p) (ob := dx X.prog X.w p [(nk, ka, y)]) (by rw [e2]; exact True.intro) hs ⟨q, hq⟩ (dx_new (by show 1 ≤ sizeLine; rw [sizeLine_eq]; omega) hsy (.cons ⟨rfl, rfl, r2⟩ .nil) dd')
    refine ⟨.ref p, _, I4, rfl, g _ (ρ2 ++ [p]) _ ?_ ((R3.av (u := dx X.prog X.w p [(nk, ka, y)]) List.mem_cons_self hpL).addX hpB ⟨[(nk, ka, y)], upd_same, ?_⟩) (.loc (loc_last R3.len))⟩
    · have P := (P1.trans P2).trans P3
      refine ⟨fun a u ha hu => ?_, ?_, fun a ha => ?_⟩
      · rw [upd_ne (ne_of_none hu hp)]; exact P.ext a u ha hu
      · obtain ⟨t, e⟩ := P.pre; exact ⟨t ++ [p], by rw [e, List.append_assoc]⟩
      · rcases List.mem_append.mp ha with ha | ha
        · exact P.new a ha
        · simp at ha; rw [ha]; exact .inr hp
    · have hB : ∀ a, a ∈ B ∨ a ∈ ρ2 ++ [p] → a ∈ p :: B ∨ a ∈ ρ2 := fun a z => z.elim (fun z => .inl (List.mem_cons_of_mem _ z)) fun z => (List.mem_append.mp z).elim .inr fun z => .inl (by simp at z; rw [z]; exact List.mem_cons_self)
      have hp' : ∀ (n : Nat) (a : Addr), ρ2[n]? = some a → (ρ2 ++ [p])[n]? = some a := fun n a z => by rw [List.getElem?_append_left (List.getElem?_eq_some_iff.mp z).1]; exact z
      exact .cons hnk (((RV.tup hka hks).av List.mem_cons_self).re hB hp') hd ((rv.av List.mem_cons_self).re hB hp') .nil
end
end Sf
end

section
set_option Elab.async false
set_option maxRecDepth 100000
set_option linter.all false
/-! Sd4: dicts: d[k], k in d, d.get(k, x), d[k] = v, d != {}. -/
namespace Sf
open PySem PySem.Spec PyProof.Rows L2
def findD (o k : D) (S : Sto) : Option (Option D) := match o with
  | .loc n => match S[n]? with
    | some (.dct _ kvs) => bif keyOk k then some (getX kvs k) else none
    | some (.dki _ kvs) => (match k with
      | .int i => some (getI kvs i)
      | _ => none)
    | _ => none
  | _ => none
def oGetX : Op2 := fun x y S => match findD x y S with
  | some (some d) => some (d, S)
  | _ => none
def oInX : Op2 := fun y x S => match findD x y S with
  | some r => some (.bl r.isSome, S)
  | none => none
def oNinX : Op2 := fun y x S => match findD x y S with
  | some r => some (.bl (!r.isSome), S)
  | none => none
def XDG (P : Program) (w : World) (H : Hp) (a : Addr) (y : V) (r : Option V) : Prop := XGet P w H a y r ∨ DGet H a y r
theorem findD_ok {G : Pg} {B L ρ : List Addr} {S : Sto} {H : Hp} {o k : D} {x y : V} {r : Option D} (R : RH G B L ρ H S) (ro : RV G.K B ρ H o x) (rk : RV G.K B ρ H k y) (e : findD o k S = some r) :
    ∃ a v, x = .ref a ∧ XDG G.P G.w H a y v ∧ ((r = none ∧ v = none) ∨ ∃ d u, r = some d ∧ v = some u ∧ RV G.K B ρ H d u) := by
  cases ro with
  | @loc n a h =>
    unfold findD at e
    simp only at e
    cases q : S[n]? with
    | none => rw [q] at e; cases e
    | some ob =>
      rw [q] at e
      cases ob with
      | dct lk kvs =>
        simp only at e
        cases hk : keyOk k with
        | false => rw [hk] at e; cases e
        | true =>
          rw [hk] at e; cases e
          obtain ⟨l, nk, rfl, hnk, hd⟩ := keyOk_ok hk
          obtain ⟨ents, h1, h2⟩ := R.ob n a _ h q
          cases rk with
          | @tup ka vs _ hka hks =>
          refine ⟨a, valX ents nk, rfl, .inl ⟨ents, nk, ka, lk_rd h1, rks_kent h2, rfl, ⟨kis_rv _ _ _ (.tup hka hks) hnk, hd⟩, rfl⟩, ?_⟩
          rcases rks_val hnk h2 with ⟨e1, e2⟩ | ⟨d, v, e1, e2, r⟩
          · exact .inl ⟨e1, e2⟩
          · exact .inr ⟨d, v, e1, e2, r⟩
      | dki lk kvs =>
        simp only at e
        cases rk with
        | int i =>
          cases e
          obtain ⟨ents, h1, h2⟩ := R.ob n a _ h q
          refine ⟨a, valV ents (Sum.inl i), rfl, .inr (.inl ⟨ents, Sum.inl i, lk_rd h1, rfl, rfl⟩), ?_⟩
          rcases ris_val (i := i) h2 with ⟨e1, e2⟩ | ⟨d, v, e1, e2, r⟩
          · exact .inl ⟨e1, e2⟩
          · exact .inr ⟨d, v, e1, e2, r⟩
        | _ => cases e
      | _ => cases e
  | _ => cases e
section
variable {X : Cx} {pins : List (Addr × Obj)} {σ : L2.St} {H : Hp} {s : Shared} {a : Addr} {y v d : V} {u r : Value} {o : Option V} {A : Around} {E : Value → Shared → Prop}
theorem xdg_type (I : Inv X pins σ H s) (g : XDG X.prog X.w H a y o) : s.TypeIs (.ref a) "dict" := by
  rcases g with ⟨ents, nk, b, e, _⟩ | g
  · exact (xd_typeIs I e).1
  · exact dict_typeIs I g
theorem xdg_get {Q : Value → Shared → Prop} (hu : A.units + 9 < cLine) (I : Inv X pins σ H s) (g : XDG X.prog X.w H a y (some v)) (ry : RelV y u) (h : ∀ w' s', Inv X pins σ H s' → RelV v w' → Q w' s') :
    wpAny (model X.prog X.w) A (getItem (.ref a) u) Q E s := g.elim (fun g => xd_getItem hu I g ry h) fun g => d_getItem (by omega) I g ry h
abbrev rIxX (P : Program) (w : World) : R2 := fun x y H Q => ∃ a v, x = .ref a ∧ XDG P w H a y (some v) ∧ Q v H
theorem ix_x (hu : X.A.units + 9 < cLine) : IxR X (rIxX X.prog X.w) := by
  intro value slice pins s σ H x y v u Q I rx ry h hs
  obtain ⟨a, r, rfl, g, q⟩ := h
  cases (show v = Value.ref a from rx)
  exact tail_any (xdg_type I g) slot_dict_getitem.lookup (xdg_get hu I g ry fun w' s' I' r' => ⟨r, H, I', r', q⟩) hs
theorem op_inX (hu : X.A.units + 9 < cLine) : OpR X (compareOp .In) (fun y x H Q => ∃ a o, x = .ref a ∧ XDG X.prog X.w H a y o ∧ Q (.bl o.isSome) H) := by
  intro pins s σ H y x v u Q I ry rx h
  obtain ⟨a, o, rfl, g, q⟩ := h
  cases (show u = Value.ref a from rx)
  exact g.elim (fun g => xd_in hu I g ry fun s' I' => ⟨.bl o.isSome, H, I', rfl, q⟩) fun g => d_in (by omega) I g ry fun s' I' => ⟨.bl o.isSome, H, I', rfl, q⟩
theorem op_ninX (hu : X.A.units + 9 < cLine) : OpR X (compareOp .NotIn) (fun y x H Q => ∃ a o, x = .ref a ∧ XDG X.prog X.w H a y o ∧ Q (.bl (!o.isSome)) H) := by
  intro pins s σ H y x v u Q I ry rx h
  obtain ⟨a, o, rfl, g, q⟩ := h
  cases (show u = Value.ref a from rx)
  exact g.elim (fun g => xd_notIn hu I g ry fun s' I' => ⟨.bl (!o.isSome), H, I', rfl, q⟩) fun g => d_notIn (by omega) I g ry fun s' I' => ⟨.bl (!o.isSome), H, I', rfl, q⟩
theorem ok_getX : Ok2 (pg X) (rIxX X.prog X.w) oGetX := by
  intro B L ρ S S' H d1 d2 d' x y Q R r1 r2 e q
  unfold oGetX at e
  cases h : findD d1 d2 S with
  | none => rw [h] at e; cases e
  | some r =>
    rw [h] at e
    cases r with
    | none => cases e
    | some d =>
      cases e
      obtain ⟨a, v, rfl, g, k⟩ := findD_ok R r1 r2 h
      rcases k with ⟨k, _⟩ | ⟨d2, u, k1, k2, k3⟩
      · cases k
      · cases k1; subst k2
        exact ⟨a, u, rfl, g, here q R k3⟩
theorem ok_inX : Ok2 (pg X) (fun y x H Q => ∃ a o, x = .ref a ∧ XDG X.prog X.w H a y o ∧ Q (.bl o.isSome) H) oInX := by
  intro B L ρ S S' H d1 d2 d' x y Q R r1 r2 e q
  unfold oInX at e
  cases h : findD d2 d1 S with
  | none => rw [h] at e; cases e
  | some r =>
    rw [h] at e
    cases e
    obtain ⟨a, v, rfl, g, k⟩ := findD_ok R r2 r1 h
    refine ⟨a, v, rfl, g, ?_⟩
    have e : v.isSome = r.isSome := by rcases k with ⟨k1, k2⟩ | ⟨d2, u, k1, k2, k3⟩ <;> rw [k1, k2] <;> rfl
    rw [e]; exact here q R (.bl _)
theorem ok_ninX : Ok2 (pg X) (fun y x H Q => ∃ a o, x = .ref a ∧ XDG X.prog X.w H a y o ∧ Q (.bl (!o.isSome)) H) oNinX := by
  intro B L ρ S S' H d1 d2 d' x y Q R r1 r2 e q
  unfold oNinX at e
  cases h : findD d2 d1 S with
  | none => rw [h] at e; cases e
  | some r =>
    rw [h] at e
    cases e
    obtain ⟨a, v, rfl, g, k⟩ := findD_ok R r2 r1 h
    refine ⟨a, v, rfl, g, ?_⟩
    have e : v.isSome = r.isSome := by rcases k with ⟨k1, k2⟩ | ⟨d2, u, k1, k2, k3⟩ <;> rw [k1, k2] <;> rfl
    rw [e]; exact here q R (.bl _)
end
/-! d[k] = v -/
def setX (o k v : D) (S : Sto) : Option Sto := match o with
  | .loc n => match S[n]? with
    | some (.dct false kvs) => bif keyOk k && fitS kvs.length then some (S.set n (.dct false (putXD kvs k v))) else none
    | some (.dki false kvs) => (match k with
      | .int i => bif fitS kvs.length then some (S.set n (.dki false (putI kvs i v))) else none
      | _ => none)
    | _ => none
  | _ => none
def sAsgX (fe fo fi : FE) : FS := fun env S => (fe env S).bindS fun x S1 => (fo env S1).bindS fun o S2 => (fi env S2).bindS fun i S3 => match setX o i x S3 with
  | some S4 => .nx env S4
  | none => .bad
abbrev rSetX (P : Program) (w : World) : TSet := fun x y v H Q => ∃ a H', x = .ref a ∧ (XPut P w H a y v H' ∨ DPut H a y v H') ∧ Q H'
theorem set_x {X : Cx} (hu : X.A.units + 9 < cLine) : PSet X (rSetX X.prog X.w) := by
  intro pins s σ H o i v ov iv u Q I ro ri rv h
  obtain ⟨a, H', rfl, g, q⟩ := h
  cases (show ov = Value.ref a from ro)
  exact g.elim (fun g => xd_setItem hu I g ri rv fun s' I' => ⟨H', I', q⟩) fun g => d_setItem (by omega) I g ri rv fun s' I' => ⟨H', I', q⟩
theorem setX_ok {G : Pg} {B L ρ : List Addr} {S S' : Sto} {H : Hp} {o i v : D} {ov iv vv : V} {Q : Hp → Prop} (R : RH G B L ρ H S) (ro : RV G.K B ρ H o ov) (ri : RV G.K B ρ H i iv) (rv : RV G.K B ρ H v vv) (e : setX o i v S = some S')
    (q : ∀ H', Post L ρ H ρ H' → RH G B L ρ H' S' → Q H') : rSetX G.P G.w ov iv vv H Q := by
  cases ro with
  | @loc n a h =>
    unfold setX at e
    simp only at e
    cases q1 : S[n]? with
    | none => rw [q1] at e; cases e
    | some ob =>
      rw [q1] at e
      cases ob with
      | dct lk kvs =>
        cases lk with
        | true => cases e
        | false =>
        simp only at e
        cases hk : keyOk i && fitS kvs.length with
        | false => rw [hk] at e; cases e
        | true =>
          rw [hk] at e; cases e
          rw [Bool.and_eq_true] at hk
          obtain ⟨l, nk, rfl, hnk, hd⟩ := keyOk_ok hk.1
          obtain ⟨ents, h1, h2⟩ := R.ob n a _ h q1
          have h1 : H a = some (dx G.P G.w a ents) := h1
          have hl : a ∉ L := R.notL h1 fun _ _ z => nomatch z
          cases ri with
          | @tup ka vs _ hka hks =>
          refine ⟨a, _, rfl, .inl ⟨ents, nk, ka, h1, rks_kent h2, rfl, ⟨kis_rv _ _ _ (.tup hka hks) hnk, hd⟩, by rw [← rks_len h2]; exact fitS_lt hk.2, rfl⟩, ?_⟩
          exact q _ (Post.wr h hl) (R.wr h hl ⟨_, upd_same, RKs.mono (Post.wr (L := L) h hl) (rks_put hnk (.tup hka hks) hd rv h2)⟩)
      | dki lk kvs =>
        cases lk with
        | true => cases e
        | false =>
        simp only at e
        cases ri with
        | int j =>
          simp only at e
          cases hk : fitS kvs.length with
          | false => rw [hk] at e; cases e
          | true =>
            rw [hk] at e; cases e
            obtain ⟨ents, h1, h2⟩ := R.ob n a _ h q1
            have h1 : H a = some (.dK ents) := h1
            have hl : a ∉ L := R.notL h1 fun _ _ z => nomatch z
            refine ⟨a, _, rfl, .inr (.inl ⟨ents, Sum.inl j, h1, rfl, by rw [← ris_len h2]; exact fitS_lt hk, rfl⟩), ?_⟩
            exact q _ (Post.wr h hl) (R.wr h hl ⟨_, upd_same, RIs.mono (Post.wr (L := L) h hl) (ris_put rv h2)⟩)
        | _ => cases e
      | _ => cases e
  | _ => cases e
section
variable {X : Cx} {w : Wx} {e : Expr} {fe fo fi : FE} {pos : Pos}
theorem ss_setX {o i : Expr} {opos : Pos} (hu : X.A.units + 9 < cLine) (he : SE X w e fe) (ho : SE X w o fo) (hi : SE X w i fi) (hs : swapsWithSole [.Subscript o i opos] e pos.line X.env = pure false := by rfl) (hw : swappedStores [.Subscript o i opos] e X.env = pure none := by rfl)
    (h1 : (assignEach [.Subscript o i opos] X.env).map (·.2) = [assign (.Subscript o i opos) X.env] := by rfl)
    (ha : ∀ v, assign (.Subscript o i opos) X.env v = (do
      let ov ← holding [v] (eval o X.env)
      let iv ← holding [v, ov] (eval i X.env)
      standAt opos
      holding [v, ov, iv] (setItem ov iv v)
      release [v, ov, iv] []) := by intro _; rfl) : SS X w (.Assign [.Subscript o i opos] e pos) (sAsgX fe fo fi) :=
  PS.imp (ps_asg he (pg_sub ho hi (set_x hu) ha) hs hw h1) fun D σ H ⟨B, L, ρ, S, env, A, g⟩ =>
    tE_mono (tE_bindS3 A g) fun x H1 h => tE_mono h fun y H2 h => tE_mono h fun z H3 ⟨B, L, ρ, S, d, d', d'', A, r, r', r'', g⟩ => by
      cases hu : setX d' d'' d S with
      | none => rw [hu] at g; exact g.elim
      | some S' =>
        rw [hu] at g
        exact setX_ok A.rh r' r'' r hu fun H' p R => g σ ρ H' p R (A.re.mono p)
end
end Sf
end

section
set_option Elab.async false
set_option maxRecDepth 100000
set_option linter.all false
/-! Sd5: a dict is locked while its keys are walked. -/
namespace Sf
open PySem PySem.Spec PyProof.Rows L2 RZ
theorem RO.reL {G : Pg} {B L L' ρ : List Addr} {H : Hp} {a : Addr} {o : Ob} (k : a ∈ L → a ∈ L') (h : RO G B L ρ H a o) : RO G B L' ρ H a o := by
  cases o with
  | lst ds => exact h
  | dct lk kvs =>
    obtain ⟨ents, e, r⟩ := h
    refine ⟨ents, ?_, r⟩
    unfold LkAt at e ⊢
    split at e
    · rename_i hl; rw [if_pos hl]; exact ⟨k e.1, e.2⟩
    · rename_i hl; rw [if_neg hl]; exact e
  | dki lk kvs =>
    obtain ⟨ents, e, r⟩ := h
    refine ⟨ents, ?_, r⟩
    unfold LkAt at e ⊢
    split at e
    · rename_i hl; rw [if_pos hl]; exact ⟨k e.1, e.2⟩
    · rename_i hl; rw [if_neg hl]; exact e
  | ins fs => exact h
section
variable {G : Pg} {B L ρ ρ' : List Addr} {S S' : Sto} {H H' : Hp} {a : Addr} {n : Nat} {ob ob' : Ob} {od : Obj} {u : HO}
theorem nd_ne (R : RH G B L ρ H S) {m : Nat} {b : Addr} (h : ρ[n]? = some a) (h2 : ρ[m]? = some b) (hm : m ≠ n) : b ≠ a := by
  rintro rfl
  obtain ⟨l1, e1⟩ := List.getElem?_eq_some_iff.mp h
  obtain ⟨l2, e2⟩ := List.getElem?_eq_some_iff.mp h2
  exact hm ((List.getElem_inj R.nd).mp (e2.trans e1.symm))
theorem RH.lockX (R : RH G B L ρ H S) (h : ρ[n]? = some a) (hl : a ∉ L) (q : RO G B (a :: L) ρ (upd H a (.frz od u)) a ob') : RH G B (a :: L) ρ (upd H a (.frz od u)) (S.set n ob') where
  len := by simp [R.len]
  nd := R.nd
  dj := R.dj
  avo := fun b hb => let ⟨w, e⟩ := R.avo b hb; ⟨w, by rw [upd_ne (by rintro rfl; exact R.dj _ (List.mem_of_getElem? h) hb)]; exact e⟩
  lk := fun b hb => by
    by_cases e : b = a
    · subst e; exact ⟨_, _, upd_same⟩
    · obtain ⟨o, w, q⟩ := R.lk b ((List.mem_cons.mp hb).resolve_left e)
      exact ⟨o, w, by rw [upd_ne e]; exact q⟩
  ob := fun m b o h1 h2 => by
    by_cases hm : m = n
    · subst hm
      rw [h] at h1; cases h1
      have hn : m < S.length := by rw [← R.len]; exact (List.getElem?_eq_some_iff.mp h).1
      rw [List.getElem?_set_self hn] at h2; cases h2
      exact q
    · rw [List.getElem?_set_ne (Ne.symm hm)] at h2
      have hne := nd_ne R h h1 hm
      exact ((R.ob m b o h1 h2).mono (Post.wr h hl) (upd_ne hne)).reL (List.mem_cons_of_mem _)
theorem RH.unlockX (R : RH G B (a :: L) ρ H S) (h : ρ[n]? = some a) (hl : a ∉ L) (q : RO G B L ρ (upd H a u) a ob) : RH G B L ρ (upd H a u) (S.set n ob) where
  len := by simp [R.len]
  nd := R.nd
  dj := R.dj
  avo := fun b hb => let ⟨w, e⟩ := R.avo b hb; ⟨w, by rw [upd_ne (by rintro rfl; exact R.dj _ (List.mem_of_getElem? h) hb)]; exact e⟩
  lk := fun b hb => by
    obtain ⟨o, w, q⟩ := R.lk b (List.mem_cons_of_mem _ hb)
    exact ⟨o, w, by rw [upd_ne (by rintro rfl; exact hl hb)]; exact q⟩
  ob := fun m b o h1 h2 => by
    by_cases hm : m = n
    · subst hm
      rw [h] at h1; cases h1
      have hn : m < S.length := by rw [← R.len]; exact (List.getElem?_eq_some_iff.mp h).1
      rw [List.getElem?_set_self hn] at h2; cases h2
      exact q
    · rw [List.getElem?_set_ne (Ne.symm hm)] at h2
      have hne := nd_ne R h h1 hm
      exact ((R.ob m b o h1 h2).reL (L' := L) (fun z => (List.mem_cons.mp z).resolve_left hne)).mono (Post.wr h hl) (upd_ne hne)
/-- behind the lock: as if nothing had been locked -/
theorem post_unlock (h : ρ[n]? = some a) (hl : a ∉ L) (p : Post (a :: L) ρ (upd H a (.frz od u)) ρ' H') : H' a = some (.frz od u) ∧ Post L ρ H ρ' (upd H' a u) := by
  have ha := List.mem_of_getElem? h
  refine ⟨p.ext a _ (.inr List.mem_cons_self) upd_same, fun b w hb e => ?_, p.pre, fun b hb => ?_⟩
  · have hne : b ≠ a := by rintro rfl; exact hb.elim (fun z => z ha) hl
    rw [upd_ne hne]
    exact p.ext b w (hb.imp id (List.mem_cons_of_mem _)) (by rw [upd_ne hne]; exact e)
  · rcases p.new b hb with z | z
    · exact .inl z
    · by_cases e : b = a
      · subst e; exact .inl ha
      · rw [upd_ne e] at z; exact .inr z
end
def lkO : Ob → Option Ob
  | .dct false kvs => some (.dct true kvs)
  | .dki false kvs => some (.dki true kvs)
  | _ => none
def unSR (n : Nat) (ob : Ob) : SR → SR
  | .nx e S => .nx e (S.set n ob)
  | .bk e S => .bk e (S.set n ob)
  | .ct e S => .ct e (S.set n ob)
  | .rt d S => .rt d (S.set n ob)
  | _ => .bad
def unO {α : Type} (n : Nat) (ob : Ob) : Out α → Out α
  | .ok d S => .ok d (S.set n ob)
  | _ => .bad
def sLock (i : Nat) (f : FS) : FS := fun env S => match env[i]? with
  | some (.loc n) => (match S[n]? with
    | some ob => (match lkO ob with
      | some ob' => unSR n ob (f env (S.set n ob'))
      | none => .bad)
    | none => .bad)
  | _ => .bad
def fLock (i : Nat) (f : FE) : FE := fun env S => match env[i]? with
  | some (.loc n) => (match S[n]? with
    | some ob => (match lkO ob with
      | some ob' => unO n ob (f env (S.set n ob'))
      | none => .bad)
    | none => .bad)
  | _ => .bad
/-- what is needed to lock -/
theorem lock_at {G : Pg} {B L ρ : List Addr} {S : Sto} {H : Hp} {n : Nat} {a : Addr} {ob ob' : Ob} (R : RH G B L ρ H S) (h : ρ[n]? = some a) (q : S[n]? = some ob) (e : lkO ob = some ob') :
    a ∉ L ∧ ∃ u, H a = some u ∧ Mut (some u) ∧ (∀ od, RH G B (a :: L) ρ (upd H a (.frz od u)) (S.set n ob')) ∧ ∀ (ρ' : List Addr) (H' : Hp) (S' : Sto), ρ'[n]? = some a → Post L ρ H ρ' (upd H' a u) → RH G B (a :: L) ρ' H' S' → RH G B L ρ' (upd H' a u) (S'.set n ob) := by
  have ro := R.ob n a ob h q
  cases ob with
  | dct lk kvs =>
    cases lk with
    | true => cases e
    | false =>
      cases e
      obtain ⟨ents, h1, h2⟩ := ro
      have h1 : H a = some (dx G.P G.w a ents) := h1
      have hl : a ∉ L := R.notL h1 fun _ _ z => nomatch z
      refine ⟨hl, _, h1, trivial, fun od => R.lockX h hl ⟨ents, ?_, RKs.mono (Post.wr (L := L) h hl) h2⟩, fun ρ' H' S' h' p R' => R'.unlockX h' hl ⟨ents, ?_, RKs.mono p h2⟩⟩
      · unfold LkAt; rw [if_pos rfl]; exact ⟨List.mem_cons_self, od, upd_same⟩
      · exact upd_same
  | dki lk kvs =>
    cases lk with
    | true => cases e
    | false =>
      cases e
      obtain ⟨ents, h1, h2⟩ := ro
      have h1 : H a = some (.dK ents) := h1
      have hl : a ∉ L := R.notL h1 fun _ _ z => nomatch z
      refine ⟨hl, _, h1, trivial, fun od => R.lockX h hl ⟨ents, ?_, RIs.mono (Post.wr (L := L) h hl) h2⟩, fun ρ' H' S' h' p R' => R'.unlockX h' hl ⟨ents, ?_, RIs.mono p h2⟩⟩
      · unfold LkAt; rw [if_pos rfl]; exact ⟨List.mem_cons_self, od, upd_same⟩
      · exact upd_same
  | _ => cases e
section
variable {X : Cx} {w : Wx} {st : Stmt} {e : Expr} {f : FS} {fe : FE}
theorem ss_lock {i : Nat} (h : SS X w st f) : SS X w st (sLock i f) := PS.imp (ps_lock h) fun D σ H ⟨B, L, ρ, S, env, A, g⟩ => by
  unfold sLock at g
  cases h1 : env[i]? with
  | none => rw [h1] at g; exact g.elim
  | some d =>
  rw [h1] at g
  cases d with
  | loc n =>
    simp only at g
    rcases A.re.at' i _ h1 with z | ⟨v, _, rv⟩
    · cases z
    cases rv with
    | @loc _ a hn =>
    cases h2 : S[n]? with
    | none => rw [h2] at g; exact g.elim
    | some ob =>
    rw [h2] at g
    simp only at g
    cases h3 : lkO ob with
    | none => rw [h3] at g; exact g.elim
    | some ob' =>
    rw [h3] at g
    simp only at g
    obtain ⟨hl, u, hu, mu, lk, un⟩ := lock_at A.rh hn h2 h3
    refine ⟨a, u, hu, mu, fun od => ⟨B, a :: L, ρ, S.set n ob', env, ⟨lk od, A.re.mono (Post.wr (L := L) hn hl)⟩, ?_⟩⟩
    revert g
    have key : ∀ (ρ' : List Addr) (H' : Hp) (S' : Sto), Post (a :: L) ρ (upd H a (.frz od u)) ρ' H' → RH (pg X) B (a :: L) ρ' H' S' → H' a = some (.frz od u) ∧ Post L ρ H ρ' (upd H' a u) ∧ RH (pg X) B L ρ' (upd H' a u) (S'.set n ob) ∧ Post L ρ' H' ρ' (upd H' a u) := fun ρ' H' S' p R => by
      obtain ⟨p1, p2⟩ := post_unlock hn hl p
      exact ⟨p1, p2, un ρ' H' S' (p.at hn) p2 R, Post.wr (p.at hn) hl⟩
    cases f env (S.set n ob') with
    | nx e S' => exact fun g σ' ρ' H' p R re => let ⟨k1, k2, k3, k4⟩ := key ρ' H' S' p R; ⟨k1, g σ' ρ' _ k2 k3 (re.mono k4)⟩
    | bk e S' => exact fun g σ' ρ' H' p R re => let ⟨k1, k2, k3, k4⟩ := key ρ' H' S' p R; ⟨k1, g σ' ρ' _ k2 k3 (re.mono k4)⟩
    | ct e S' => exact fun g σ' ρ' H' p R re => let ⟨k1, k2, k3, k4⟩ := key ρ' H' S' p R; ⟨k1, g σ' ρ' _ k2 k3 (re.mono k4)⟩
    | rt d S' => exact fun g v ρ' H' p R rv => let ⟨k1, k2, k3, k4⟩ := key ρ' H' S' p R; ⟨k1, g v ρ' _ k2 k3 (rv.mono k4)⟩
    | xc c S' => exact fun g => g.elim
    | bad => exact fun g => g.elim
  | _ => exact g.elim
theorem se_lock {i : Nat} (h : SE X w e fe) : SE X w e (fLock i fe) := PE.imp (pe_lock h) fun σ H Q ⟨B, L, ρ, S, env, A, g⟩ => by
  unfold fLock at g
  cases h1 : env[i]? with
  | none => rw [h1] at g; exact g.elim
  | some d =>
  rw [h1] at g
  cases d with
  | loc n =>
    simp only at g
    rcases A.re.at' i _ h1 with z | ⟨v, _, rv⟩
    · cases z
    cases rv with
    | @loc _ a hn =>
    cases h2 : S[n]? with
    | none => rw [h2] at g; exact g.elim
    | some ob =>
    rw [h2] at g
    simp only at g
    cases h3 : lkO ob with
    | none => rw [h3] at g; exact g.elim
    | some ob' =>
    rw [h3] at g
    simp only at g
    obtain ⟨hl, u, hu, mu, lk, un⟩ := lock_at A.rh hn h2 h3
    refine ⟨a, u, hu, mu, fun od => ⟨B, a :: L, ρ, S.set n ob', env, ⟨lk od, A.re.mono (Post.wr (L := L) hn hl)⟩, ?_⟩⟩
    revert g
    have key : ∀ (ρ' : List Addr) (H' : Hp) (S' : Sto), Post (a :: L) ρ (upd H a (.frz od u)) ρ' H' → RH (pg X) B (a :: L) ρ' H' S' → H' a = some (.frz od u) ∧ Post L ρ H ρ' (upd H' a u) ∧ RH (pg X) B L ρ' (upd H' a u) (S'.set n ob) ∧ Post L ρ' H' ρ' (upd H' a u) := fun ρ' H' S' p R => by
      obtain ⟨p1, p2⟩ := post_unlock hn hl p
      exact ⟨p1, p2, un ρ' H' S' (p.at hn) p2 R, Post.wr (p.at hn) hl⟩
    cases fe env (S.set n ob') with
    | ok d S' => exact fun g v ρ' H' p R rv => let ⟨k1, k2, k3, k4⟩ := key ρ' H' S' p R; ⟨k1, g v ρ' _ k2 k3 (rv.mono k4)⟩
    | exc c S' => exact fun g => g.elim
    | bad => exact fun g => g.elim
  | _ => exact g.elim
end
end Sf
end

section
set_option Elab.async false
set_option maxRecDepth 100000
set_option linter.all false
/-! Sd6: for k in d; d.get(k, x); d != {}. -/
namespace Sf
open PySem PySem.Spec PyProof.Rows L2 RZ
theorem paired_get' {α β : Type} {G : α → β → Prop} {l₁ : List α} {l₂ : List β} (h : Paired G l₁ l₂) {i : Nat} {a : α} (e : l₁[i]? = some a) : ∃ b, l₂[i]? = some b ∧ G a b := paired_get h e
theorem frzX {X : Cx} {pins : List (Addr × Obj)} {σ : L2.St} {H : Hp} {s : Shared} {d : Addr} {o : Obj} {ents : List Ent} (I : Inv X pins σ H s) (h : H d = some (.frz o (dx X.prog X.w d ents))) :
    (d == sysModules) = false ∧ s.heap.get? d = some o ∧ o.ExactDict ∧ ∃ (es : Array DictEntry) (ep : Nat), o.data = .dict es ep ∧ es.size = ents.length ∧
      ∀ (i : Nat) (e : Ent), ents[i]? = some e → ∃ en : DictEntry, es[i]? = some en ∧ en.key = .ref e.2.1 := by
  obtain ⟨hd, ⟨z, hs, nd, xs, pr, o', es, ep, ho, hx, hdt, he⟩, _⟩ := I.hok d _ h
  rw [hd] at ho
  cases ho
  refine ⟨hs, hd, hx, es, ep, hdt, ?_, fun i e hi => ?_⟩
  · have l1 : es.size = xs.length := size_of_entries he
    have l2 : ents.length = xs.length := Paired.length pr
    omega
  · obtain ⟨b, hb, e1, e2, _⟩ := paired_get pr hi
    have q := entry_at he i
    rw [hb] at q
    exact ⟨_, q, by rw [e2]; rfl⟩
/-- the keys of the locked dict at d -/
def ItX (P : Program) (w : World) (d : Addr) (o : Obj) (ents : List Ent) : It :=
  ⟨fun i H => H d = some (.frz o (dx P w d ents)) ∧ i < ents.length, fun i H x H' => H' = H ∧ ∃ e, ents[i]? = some e ∧ x = .ref e.2.1, fun i H => H d = some (.frz o (dx P w d ents)) ∧ ents.length ≤ i⟩
theorem turn_keysX {P : Program} {w : World} {K : PySem.W.Frag} {tg : Expr} {d : Addr} {o : Obj} {es : Array DictEntry} {ep : Nat} {ents : List Ent} (it : Addr) (hod : o.data = .dict es ep) : Turn P w K tg (ItX P w d o ents) [it] it (fun i h => h.IsKeyIter it d i ents.length ep) where
  mem := by simp
  obj := fun i h st b hb => by
    have e : b = it := by simpa using hb
    subst e
    obtain ⟨oi, e, c, dd⟩ := st
    exact ⟨oi, e, fun v z => by rw [dd] at z; cases z⟩
  keep := fun i h h' st k => st.at fun oi e => k it (by simp) oi e
  item := by
    intro X hP hw hK hc i pins s σ H E I hf st hg
    subst hP hw hK
    obtain ⟨hd, hi⟩ := hg
    obtain ⟨f0, f1, f2, f3, f4, f5⟩ := hf it (by simp)
    obtain ⟨hs, hgd, hx, es', ep', hdt, hsz, ent⟩ := frzX I hd
    obtain ⟨rfl, rfl⟩ := dict_ep hod hdt
    obtain ⟨e, he⟩ : ∃ p, ents[i]? = some p := ⟨ents[i], List.getElem?_eq_getElem hi⟩
    obtain ⟨en, hen, hkey⟩ := ent i e he
    refine next_key_item st hgd hdt hsz hen fun h' st' sb => ?_
    have I1 : Inv X pins σ H { s with heap := h' } := I.turned (t' := s.toks) (fun b ob hb e => (sb.2 b hb).trans e) f0 f1 f3 f4 f5
    obtain ⟨oi, e', c, dd⟩ := id st'
    exact ⟨en.key, rfl, go_of (s := { s with heap := h' }) e' c dd (by decide) ⟨.ref e.2.1, H, I1, hkey, ⟨rfl, e, he, rfl⟩, st', fun b hb => (hf b hb).1⟩⟩
  done := by
    intro X hP hw hK hc i pins s σ H E I hf st hg
    subst hP hw hK
    obtain ⟨hd, hi⟩ := hg
    obtain ⟨f0, f1, f2, f3, f4, f5⟩ := hf it (by simp)
    obtain ⟨hs, hgd, hx, es', ep', hdt, hsz, ent⟩ := frzX I hd
    obtain ⟨rfl, rfl⟩ := dict_ep hod hdt
    exact next_key_end (I.ok.hd hc) st hgd hdt hsz hi fun h' eb => ⟨rfl, I.turned (t' := s.toks) (fun b ob hb e => eb b ob hb e) f0 f1 f3 f4 f5⟩
  self := fun A i s Q E st h => by
    refine wpAny_pyIter_slot st.typeIs F.slot_dict_keyiterator_iter (wpAny_call_entry F.slot_dict_keyiterator_iter st.typeIs F.entry_dict_keyiterator_iter ?_ (F.args_dict_keyiterator_iter_1 _))
    show wpAny _ _ (ret (.ref it)) _ _ s
    exact wpAny_pure ⟨_, rfl, "dict_keyiterator", _, st.typeIs, F.slot_dict_keyiterator_next.lookup, h⟩
def iKeysX (P : Program) (w : World) (td : TE) : TI := fun σ H R => td σ H fun x H1 => ∃ d o, x = .ref d ∧ ((∃ kvs, H1 d = some (.frz o (.dK kvs)) ∧ R (Itk d o kvs) H1) ∨ ∃ ents, H1 d = some (.frz o (dx P w d ents)) ∧ R (ItX P w d o ents) H1)
theorem pi_keysX {X : Cx} {tg e : Expr} {td : TE} (he : PE X e td) : PI X tg e (iKeysX X.prog X.w td) := by
  refine ⟨fun pins s σ H R I h => ?_⟩
  refine thn (he.run pins s σ H _ I h) fun u s1 ⟨x, H1, I1, rx, d, o, ex, q⟩ => ?_
  subst ex
  obtain rfl : u = Value.ref d := rx
  rcases q with ⟨kvs, hd, q⟩ | ⟨ents, hd, q⟩
  · obtain ⟨hs, hgd, hx, es, ep, vs, hdt, hsz, kv, hm⟩ := I1.frzK hd
    refine iter_keys hs hgd hx hdt (pi_one (tk := s1.toks) I1 _ (turn_keys _ hdt) ⟨_, Heap.get?_push_size _ rfl, rfl, ?_⟩ q)
    rw [hsz] <;> rfl
  · obtain ⟨hs, hgd, hx, es, ep, hdt, hsz, ent⟩ := frzX I1 hd
    refine iter_keys hs hgd hx hdt (pi_one (tk := s1.toks) I1 _ (turn_keysX _ hdt) ⟨_, Heap.get?_push_size _ rfl, rfl, ?_⟩ q)
    rw [hsz] <;> rfl
def iKeysD (fe : FE) : FA := fun env S => (fe env S).bind fun o S1 => match o with
  | .loc n => (match S1[n]? with
    | some (.dct true kvs) => .ok (kvs.map (·.1)) S1
    | some (.dki true kvs) => .ok (kvs.map fun p => .int p.1) S1
    | _ => .bad)
  | _ => .bad
theorem rks_get {G : Pg} {B ρ : List Addr} {H : Hp} : ∀ {kvs : List (D × D)} {ents : List Ent} {i : Nat} {d : D} {e : Ent}, RKs G B ρ H kvs ents → (kvs.map (·.1))[i]? = some d → ents[i]? = some e → RV G.K B ρ H d (.ref e.2.1)
  | _, _, i, _, _, .nil, h, _ => by simp at h
  | _, _, 0, _, _, .cons h1 h2 h3 h4 r, h, h' => by simp at h h'; subst h; subst h'; exact h2
  | _, _, i + 1, _, _, .cons h1 h2 h3 h4 r, h, h' => rks_get (i := i) r (by simpa using h) (by simpa using h')
theorem ris_get {G : Pg} {B ρ : List Addr} {H : Hp} : ∀ {kvs : List (Int × D)} {ents : List (L2.Key × V)} {i : Nat} {d : D} {k : L2.Key} {v : V}, RIs G B ρ H kvs ents → (kvs.map fun p => D.int p.1)[i]? = some d → ents[i]? = some (k, v) → RV G.K B ρ H d (kV k)
  | _, _, i, _, _, _, .nil, h, _ => by simp at h
  | _, _, 0, _, _, _, .cons h4 r, h, h' => by
    simp at h h'; subst h; obtain ⟨rfl, rfl⟩ := h'; exact .int _
  | _, _, i + 1, _, _, _, .cons h4 r, h, h' => ris_get (i := i) r (by simpa using h) (by simpa using h')
theorem RKs.addB' {G : Pg} {B ρ : List Addr} {H : Hp} {p : Addr} {o : HO} (hn : H p = none) : ∀ {kvs : List (D × D)} {ents : List Ent}, RKs G B ρ H kvs ents → RKs G (p :: B) ρ (upd H p o) kvs ents
  | _, _, .nil => .nil
  | _, _, .cons h1 h2 h3 h4 r => .cons h1 (h2.addB hn) h3 (h4.addB hn) (RKs.addB' hn r)
theorem RKs.av' {G : Pg} {B ρ : List Addr} {H : Hp} {p : Addr} {o : HO} (hp : p ∈ B) : ∀ {kvs : List (D × D)} {ents : List Ent}, RKs G B ρ H kvs ents → RKs G B ρ (upd H p o) kvs ents
  | _, _, .nil => .nil
  | _, _, .cons h1 h2 h3 h4 r => .cons h1 (h2.av hp) h3 (h4.av hp) (RKs.av' hp r)
theorem RIs.addB' {G : Pg} {B ρ : List Addr} {H : Hp} {p : Addr} {o : HO} (hn : H p = none) : ∀ {kvs : List (Int × D)} {ents : List (L2.Key × V)}, RIs G B ρ H kvs ents → RIs G (p :: B) ρ (upd H p o) kvs ents
  | _, _, .nil => .nil
  | _, _, .cons h4 r => .cons (h4.addB hn) (RIs.addB' hn r)
theorem RIs.av' {G : Pg} {B ρ : List Addr} {H : Hp} {p : Addr} {o : HO} (hp : p ∈ B) : ∀ {kvs : List (Int × D)} {ents : List (L2.Key × V)}, RIs G B ρ H kvs ents → RIs G B ρ (upd H p o) kvs ents
  | _, _, .nil => .nil
  | _, _, .cons h4 r => .cons (h4.av hp) (RIs.av' hp r)
section
variable {G : Pg} {L : List Addr}
theorem walk_keysX {d : Addr} {o : Obj} {ents : List Ent} {kvs : List (D × D)} (hd : d ∈ L) : WalkOk G L (ItX G.P G.w d o ents) (kvs.map (·.1)) (fun B ρ H => d ∉ B ∧ H d = some (.frz o (dx G.P G.w d ents)) ∧ RKs G B ρ H kvs ents) where
  mono := fun B ρ ρ' H H' p ⟨h0, h1, h2⟩ => ⟨h0, p.ext d _ (.inr hd) h1, h2.mono p⟩
  addB := fun B ρ H p u hn ⟨h0, h1, h2⟩ => ⟨fun z => (List.mem_cons.mp z).elim (fun z => by rw [z, hn] at h1; cases h1) h0, by rw [upd_ne (ne_of_none h1 hn)]; exact h1, RKs.addB' hn h2⟩
  av := fun B ρ H p u hp ⟨h0, h1, h2⟩ => ⟨h0, by rw [upd_ne (by rintro rfl; exact h0 hp)]; exact h1, RKs.av' hp h2⟩
  stop := fun B ρ H ⟨h0, h1, h2⟩ => ⟨h1, by rw [List.length_map, rks_len h2]; exact Nat.le_refl _⟩
  go := fun B ρ H i ⟨h0, h1, h2⟩ hi => ⟨h1, by rw [← rks_len h2]; simpa using hi⟩
  yld := fun B ρ S H H' i k x ⟨h0, h1, h2⟩ R e y => by
    obtain ⟨rfl, en, he, rfl⟩ := y
    exact ⟨Post.refl, R, rks_get h2 e he⟩
theorem walk_keysI {d : Addr} {o : Obj} {ents : List (L2.Key × V)} {kvs : List (Int × D)} (hd : d ∈ L) : WalkOk G L (Itk d o ents) (kvs.map fun p => D.int p.1) (fun B ρ H => d ∉ B ∧ H d = some (.frz o (.dK ents)) ∧ RIs G B ρ H kvs ents) where
  mono := fun B ρ ρ' H H' p ⟨h0, h1, h2⟩ => ⟨h0, p.ext d _ (.inr hd) h1, h2.mono p⟩
  addB := fun B ρ H p u hn ⟨h0, h1, h2⟩ => ⟨fun z => (List.mem_cons.mp z).elim (fun z => by rw [z, hn] at h1; cases h1) h0, by rw [upd_ne (ne_of_none h1 hn)]; exact h1, RIs.addB' hn h2⟩
  av := fun B ρ H p u hp ⟨h0, h1, h2⟩ => ⟨h0, by rw [upd_ne (by rintro rfl; exact h0 hp)]; exact h1, RIs.av' hp h2⟩
  stop := fun B ρ H ⟨h0, h1, h2⟩ => ⟨h1, by rw [List.length_map, ris_len h2]; exact Nat.le_refl _⟩
  go := fun B ρ H i ⟨h0, h1, h2⟩ hi => ⟨h1, by rw [← ris_len h2]; simpa using hi⟩
  yld := fun B ρ S H H' i k x ⟨h0, h1, h2⟩ R e y => by
    obtain ⟨rfl, kk, v, he, rfl⟩ := y
    exact ⟨Post.refl, R, ris_get h2 e he⟩
end
section
variable {X : Cx} {w : Wx} {tg e : Expr} {fe : FE}
theorem si_keysD (he : SE X w e fe) : SI X w tg e (iKeysD fe) := PI.imp (pi_keysX he) fun σ H R ⟨B, L, ρ, S, env, A, g⟩ => by
  refine ⟨B, L, ρ, S, env, A, ?_⟩
  revert g
  unfold iKeysD
  cases fe env S with
  | exc c S' => exact fun g => g
  | bad => exact fun g => g
  | ok d S' =>
    intro g v ρ' H' p RR r
    have g' := GO.step g p
    revert g'
    cases r with
    | @loc n a h =>
      simp only [Out.bind]
      cases q : S'[n]? with
      | none => exact fun g => g.elim
      | some ob =>
        have ro := RR.ob n a ob h q
        have hb : a ∉ B := RR.dj a (List.mem_of_getElem? h)
        cases ob with
        | dct lk kvs =>
          cases lk with
          | false => exact fun g => g.elim
          | true =>
            obtain ⟨ents, h1, h2⟩ := ro
            unfold LkAt at h1
            rw [if_pos rfl] at h1
            obtain ⟨hl, od, h1⟩ := h1
            exact fun g => ⟨a, od, rfl, .inr ⟨ents, h1, g _ ρ' H' Post.refl RR ⟨_, walk_keysX hl, hb, h1, h2⟩⟩⟩
        | dki lk kvs =>
          cases lk with
          | false => exact fun g => g.elim
          | true =>
            obtain ⟨ents, h1, h2⟩ := ro
            unfold LkAt at h1
            rw [if_pos rfl] at h1
            obtain ⟨hl, od, h1⟩ := h1
            exact fun g => ⟨a, od, rfl, .inl ⟨ents, h1, g _ ρ' H' Post.refl RR ⟨_, walk_keysI hl, hb, h1, h2⟩⟩⟩
        | _ => exact fun g => g.elim
    | _ => exact fun g => g.elim
end
/-! d.get(k, x) -/
def isDct (o : D) (S : Sto) : Bool := match o with
  | .loc n => match S[n]? with
    | some (.dct _ _) => true
    | some (.dki _ _) => true
    | _ => false
  | _ => false
def fGetX (fo fk fd : FE) : FE := fun env S => (fo env S).bind fun o S1 => bif isDct o S1 then (fk env S1).bind fun k S2 => (fd env S2).bind fun d S3 => (match findD o k S3 with
  | some r => .ok (r.getD d) S3
  | none => .bad) else .bad
def IsX (P : Program) (w : World) (H : Hp) (a : Addr) : Prop := (∃ kvs, Rd H a (.dK kvs)) ∨ ∃ ents, Rd H a (dx P w a ents)
theorem isX_at {X : Cx} {pins : List (Addr × Obj)} {σ : L2.St} {H : Hp} {s : Shared} {a : Addr} (I : Inv X pins σ H s) (d : IsX X.prog X.w H a) :
    s.TypeIs (.ref a) "dict" ∧ (∀ b, Value.ref a = .ref b → ∃ ob, s.heap.get? b = some ob ∧ ob.dict = none) := by
  rcases d with h | ⟨ents, e⟩
  · obtain ⟨h1, h2, _⟩ := isD_at I (.inl h); exact ⟨h1, h2⟩
  · obtain ⟨h1, h2, _⟩ := xd_typeIs I e; exact ⟨h1, h2⟩
def tXGet2 (P : Program) (w : World) (td ty tx : TE) : TE := fun σ H Q => td σ H fun x H1 => ∃ a, x = .ref a ∧ IsX P w H1 a ∧ ty σ H1 fun y H2 => tx σ H2 fun z H3 => ∃ o, XDG P w H3 a y o ∧ Q (o.getD z) H3
section
variable {X : Cx} {w : Wx} {o e f : Expr} {apos cpos : Pos} {td ty tx : TE} {fo fk fd : FE}
theorem pe_xget2 (hu : X.A.units + 9 < cLine) (ho : PE X o td) (he : PE X e ty) (hf : PE X f tx) (m : M2 X o "get" apos e f cpos) : PE X (.Call (.Attribute o "get" apos) [e, f] [] cpos) (tXGet2 X.prog X.w td ty tx) := by
  refine ⟨fun pins s σ H Q I h => ?_⟩
  refine wpAny_Call_method m.base m.few m.line PySem.F.plainAttrs_dict PySem.F.slot_dict_get PySem.F.type_dict_get (thn (ho.run pins s σ H _ I h) fun u s1 ⟨x, H1, I1, rx, a, ex, d, q1⟩ => ?_)
  subst ex
  obtain rfl : u = Value.ref a := rx
  obtain ⟨t1, t2⟩ := isX_at I1 d
  refine ⟨t1, t2, ?_⟩
  rw [m.trees]
  refine Calls.callWith_builtin rfl (Calls.evalArgs_plain (Calls.spliced_cons (thn (he.run pins s1 σ H1 _ I1 q1) fun iv s2 ⟨y, H2, I2, ry, q2⟩ =>
    Calls.spliced_cons (thn (hf.run pins s2 σ H2 _ I2 q2) fun fv s3 ⟨z, H3, I3, rz, ov, g, q3⟩ => Calls.spliced_nil ?_))))
  exact g.elim (fun g => xd_get2 hu I3 g ry rz fun w' s4 I4 rw' => ⟨_, H3, I4, rw', q3⟩) fun g => d_get2 (by omega) I3 g ry rz fun w' s4 I4 rw' => ⟨_, H3, I4, rw', q3⟩
theorem se_getX (hu : X.A.units + 9 < cLine) (ho : SE X w o fo) (he : SE X w e fk) (hf : SE X w f fd) (m : M2 X o "get" apos e f cpos) : SE X w (.Call (.Attribute o "get" apos) [e, f] [] cpos) (fGetX fo fk fd) :=
  PE.imp (pe_xget2 hu ho he hf m) fun σ H Q ⟨B, L, ρ, S, env, A, g⟩ => by
    refine ⟨B, L, ρ, S, env, A, ?_⟩
    revert g
    unfold fGetX
    cases fo env S with
    | exc c S' => exact fun g => g
    | bad => exact fun g => g
    | ok d S' =>
      intro g v ρ' H' p R r
      have g' := GO.step g p
      revert g'
      simp only [Out.bind]
      cases hd : isDct d S' with
      | false => exact fun g => g.elim
      | true =>
      intro g'
      have gg : GO (pg X) w.W w.xm B L ρ' H' σ (rD (pg X) B) ((fk env S').bind fun k S2 => (fd env S2).bind fun d' S3 => (match findD d k S3 with
        | some r => Out.ok (r.getD d') S3
        | none => .bad)) Q := g'
      cases r with
      | @loc n a h =>
        refine ⟨a, rfl, ?_, ?_⟩
        · unfold isDct at hd
          simp only at hd
          cases q : S'[n]? with
          | none => rw [q] at hd; cases hd
          | some ob =>
            rw [q] at hd
            have ro := R.ob n a ob h q
            cases ob with
            | dct lk kvs => obtain ⟨ents, h1, h2⟩ := ro; exact .inr ⟨ents, lk_rd h1⟩
            | dki lk kvs => obtain ⟨ents, h1, h2⟩ := ro; exact .inl ⟨ents, lk_rd h1⟩
            | _ => cases hd
        · refine ⟨B, L, ρ', S', env, A.step p R, ?_⟩
          revert gg
          cases fk env S' with
          | exc c S2 => exact fun g => g
          | bad => exact fun g => g
          | ok k S2 =>
            intro gg y ρ2 H2 p2 R2 r2
            have g2 : GO (pg X) w.W w.xm B L ρ2 H2 σ (rD (pg X) B) ((fd env S2).bind fun d' S3 => (match findD (.loc n) k S3 with
              | some r => Out.ok (r.getD d') S3
              | none => .bad)) Q := GO.step gg p2
            refine ⟨B, L, ρ2, S2, env, (A.step p R).step p2 R2, ?_⟩
            revert g2
            cases fd env S2 with
            | exc c S3 => exact fun g => g
            | bad => exact fun g => g
            | ok d' S3 =>
              intro g2 z ρ3 H3 p3 R3 r3
              have g3 : GO (pg X) w.W w.xm B L ρ3 H3 σ (rD (pg X) B) (match findD (.loc n) k S3 with
                | some r => Out.ok (r.getD d') S3
                | none => .bad) Q := GO.step g2 p3
              cases hf : findD (.loc n) k S3 with
              | none => rw [hf] at g3; exact g3.elim
              | some r =>
                rw [hf] at g3
                obtain ⟨a2, v2, e2, gx, kk⟩ := findD_ok R3 (RV.loc (p3.at (p2.at h))) (r2.mono p3) hf
                cases e2
                refine ⟨v2, gx, ?_⟩
                refine g3 _ ρ3 H3 Post.refl R3 ?_
                rcases kk with ⟨k1, k2⟩ | ⟨d2, u, k1, k2, k3⟩
                · rw [k1, k2]; exact r3
                · rw [k1, k2]; exact k3
      | _ => cases hd
end
end Sf
end

section
set_option Elab.async false
set_option maxRecDepth 100000
set_option linter.all false
/-! Sd7: d != {}. -/
namespace Sf
open PySem PySem.Spec PyProof.Rows L2
section
variable {prog : Program} {w : World} {A : Around} {E : Value → Shared → Prop} {s : Shared}
theorem samePairs0 {nm : String} {a b : Addr} {oa ob : Obj} {es : Array DictEntry} {ep ep' : Nat} {Q : Bool → Shared → Prop} (ha : (a == sysModules) = false) (hb : (b == sysModules) = false)
    (hoa : s.heap.get? a = some oa) (hda : oa.data = .dict es ep) (hob : s.heap.get? b = some ob) (hdb : ob.data = .dict #[] ep') (h : Q (es.size == 0) s) :
    wpAny (model prog w) A (Builtin.Dict.samePairs nm a b) Q E s := by
  unfold Builtin.Dict.samePairs Builtin.Dict.showsAll
  rw [if_neg (show ¬ (a == sysModules) = true by rw [ha]; exact Bool.false_ne_true), if_neg (show ¬ (b == sysModules) = true by rw [hb]; exact Bool.false_ne_true)]
  refine wpAny_bind (wpAny_pure (wpAny_bind (wpAny_pure ?_)))
  refine wpAny_bind (wpAny_dictEntries hoa hda ?_)
  dsimp only
  refine wpAny_bind (wpAny_dictEntries hob hdb ?_)
  by_cases hsz : es.size = 0
  case neg =>
    rw [if_pos (by simpa using hsz)]
    have hbf : (es.size == 0) = false := by simpa using hsz
    rw [hbf] at h
    exact wpAny_bind (wpAny_rule (wpAny_pure h))
  case pos =>
    have h' : Q true s := by simpa [hsz] using h
    rw [if_neg (by rw [hsz]; simp)]
    refine wpAny_bind (wpAny_dictEpoch hoa hda ?_)
    refine wpAny_bind ?_
    rw [Std.Legacy.Range.forIn_eq_forIn_range']
    simp only [Std.Legacy.Range.size, Nat.sub_zero, Nat.add_sub_cancel, Nat.div_one]
    rw [hsz]
    exact wpAny_pure (wpAny_pure h')
theorem ne_empty {a b : Addr} {oa ob : Obj} {es : Array DictEntry} {ep ep' : Nat} {Q : Value → Shared → Prop} (ha : (a == sysModules) = false) (hb : (b == sysModules) = false)
    (hoa : s.heap.get? a = some oa) (xa : oa.ExactDict) (hda : oa.data = .dict es ep) (hob : s.heap.get? b = some ob) (xb : ob.ExactDict) (hdb : ob.data = .dict #[] ep') (hu : A.units < cLine) (h : Q (.bool (!(es.size == 0))) s) :
    wpAny (model prog w) A (compareOp .NotEq (.ref a) (.ref b)) Q E s := by
  have da : s.TypeIs (.ref a) "dict" := ⟨oa, hoa, xa.1⟩
  have db : s.TypeIs (.ref b) "dict" := ⟨ob, hob, xb.1⟩
  refine wpAny_richCompare_same_room (op := .NotEq) da db PySem.F.slot_dict_ne (wpAny_call_entry PySem.F.slot_dict_ne da PySem.F.entry_dict_ne ?_ (PySem.F.args_dict_ne_2 _ _)) hu
  show wpAny _ _ (Builtin.Dict.dictSlotArgs "__ne__" ⟨[.ref a, .ref b], []⟩ >>= _) _ _ s
  refine wpAny_bind ?_
  unfold Builtin.Dict.dictSlotArgs
  refine wpAny_bind (wpAny_notOrdered_dict da ?_)
  show wpAny _ _ (pure (Value.ref a, Value.ref b)) _ _ s
  refine wpAny_pure ?_
  refine wpAny_bind (wpAny_isInstance (T := "dict") db PySem.F.sub_dict_dict ?_)
  simp only [Bool.not_true, Bool.false_eq_true, if_false]
  refine wpAny_bind (wpAny_pure (wpAny_bind (wpAny_pure ?_)))
  refine wpAny_bind (samePairs0 ha hb hoa hda hob hdb ?_)
  refine wpAny_pure ⟨_, rfl, ?_, ?_⟩
  · exact fun x => nomatch x
  · simpa using h
end
def rNeE (P : Program) (w : World) : R2 := fun x y H Q => ∃ a b ents, x = .ref a ∧ y = .ref b ∧ Rd H a (dx P w a ents) ∧ Rd H b (dx P w b []) ∧ Q (.bl (!(ents.length == 0))) H
theorem op_neE {X : Cx} (hu : X.A.units < cLine) : OpR X (compareOp .NotEq) (rNeE X.prog X.w) := by
  intro pins s σ H x y v u Q I rx ry h
  obtain ⟨a, b, ents, rfl, rfl, ea, eb, q⟩ := h
  cases (show v = Value.ref a from rx)
  cases (show u = Value.ref b from ry)
  obtain ⟨z, hs, nd, xs, r, o, es, ep, h1, h2, h3, h4⟩ := dx_rd I.hok ea
  obtain ⟨z', hs', nd', xs', r', o', es', ep', h1', h2', h3', h4'⟩ := dx_rd I.hok eb
  cases r'
  have e0 : es' = #[] := by
    have : es'.toList = [] := by rw [h4']; rfl
    exact Array.toList_eq_nil_iff.mp this
  subst e0
  refine ne_empty hs hs' h1 h2 h3 h1' h2' h3' hu ⟨.bl _, H, I, rfl, ?_⟩
  have l1 : es.size = xs.length := size_of_entries h4
  have l2 : ents.length = xs.length := Paired.length r
  rw [l1, ← l2]; exact q
def tDNewX (P : Program) (w : World) : TE := fun _ H Q => ∀ p, H p = none → Q (.ref p) (upd H p (dx P w p []))
def fNeE (fo : FE) : FE := fun env S => (fo env S).bind fun o S1 => match o with
  | .loc n => (match S1[n]? with
    | some (.dct _ kvs) => .ok (.bl (!(kvs.length == 0))) S1
    | _ => .bad)
  | _ => .bad
section
variable {X : Cx} {w : Wx} {a : Expr} {fa : FE} {p pos : Pos}
theorem pe_dnewX : PE X (.Dict [] [] p) (tDNewX X.prog X.w) := ⟨fun pins s σ H Q I h =>
  wpAny_Dict_empty ⟨.ref s.heap.objs.size, _, I.laid (a := s.heap.objs.size) (o := dx X.prog X.w s.heap.objs.size []) (t' := s.toks) (fun _ _ q => Heap.get?_push_of_some _ q) (Nat.le_refl _) (dx_empty s.heap I.big), rfl, h _ (I.hok.fresh (Nat.le_refl _))⟩⟩
theorem go_neE {σ : L2.St} {H : Hp} {Q : VK} (h : tE (pg X) w.W w.xm (fNeE fa) σ H Q) : tOp (rNeE X.prog X.w) (tE (pg X) w.W w.xm fa) (tDNewX X.prog X.w) σ H Q := by
  obtain ⟨B, L, ρ, S, env, A, g⟩ := h
  refine ⟨B, L, ρ, S, env, A, ?_⟩
  revert g
  unfold fNeE
  cases fa env S with
  | exc c S' => exact fun g => g
  | bad => exact fun g => g
  | ok d S' =>
    intro g v ρ' H' p R r
    have g' := GO.step g p
    revert g'
    cases r with
    | @loc n a h =>
      simp only [Out.bind]
      cases q : S'[n]? with
      | none => exact fun g => g.elim
      | some ob =>
        have ro := R.ob n a ob h q
        cases ob with
        | dct lk kvs =>
          obtain ⟨ents, h1, h2⟩ := ro
          intro g b hb
          have hne : a ≠ b := by
            obtain ⟨u, hu⟩ := R.there h
            exact ne_of_none hu hb
          refine ⟨a, b, ents, rfl, rfl, ?_, .inl upd_same, ?_⟩
          · rcases lk_rd h1 with z | ⟨o, z⟩
            · exact .inl (by rw [upd_ne hne]; exact z)
            · exact .inr ⟨o, by rw [upd_ne hne]; exact z⟩
          · rw [← rks_len h2]
            exact g _ ρ' _ (Post.newV hb) (R.newV hb) (.bl _)
        | _ => exact fun g => g.elim
    | _ => exact fun g => g.elim
theorem se_neE (hu : X.A.units < cLine) (ha : SE X w a fa) : SE X w (.Compare a [.NotEq] [.Dict [] [] p] pos) (fNeE fa) := PE.imp (pe_cmpR (op_neE hu) ha pe_dnewX rfl) fun σ H Q h => go_neE h
theorem st_neE (hu : X.A.units < cLine) (ha : SE X w a fa) : ST X w (.Compare a [.NotEq] [.Dict [] [] p] pos) (tVal (fNeE fa)) := by
  refine PT.imp (pt_cmpR (op_neE hu) ha pe_dnewX rfl) fun σ H Q ⟨B, L, ρ, S, env, A, gg⟩ => ?_
  have key : tE (pg X) w.W w.xm (fNeE fa) σ H fun x H1 => ∃ k, x = .bl k ∧ Q k H1 := by
    refine tE_mono (tE_bind (rel := fun _ => rB) (f := fNeE fa) A gg) fun x H1 ⟨B, L, ρ, S, d, A, r, g⟩ => ?_
    cases r with
    | bl c => exact ⟨c, rfl, GO.ok0 g A rfl⟩
    | _ => exact g.elim
  exact go_neE key
end
theorem hu9 {k : Nat} {A : Around} (hr : Room k A) : A.units + 9 < cLine := by have := hr.units; omega
theorem hu0 {k : Nat} {A : Around} (hr : Room k A) : A.units < cLine := by have := hr.units; omega
/-! f() -/
def fCall0 (F : Fn) : FE := fun _ S => F [] S
section
variable {X : Cx} {w : Wx} {k : Nat} {f : Addr} {fd : FuncData} {ps : List Str} {F : Fn} {x : Str} {p pos : Pos}
theorem se_call0 (FO : FnOk X.prog X.w X.K X.mg X.base (L2.CX X.prog X.w) k f fd ps (spOf (pg X) w.xm 0 F)) (tk : Takes X w.W) (hr : Room k X.A) (hm : X.mg x = some (.ref f)) (hk : PySem.W.keepIn X.K (.ref f) = true) (hb : Binds X.K fd ps [])
    (hg : Gl X x := by rfl) (hdb : (x == ("__debug__" : Str)) = false := by decide) : SE X w (.Call (.Name x p) [] [] pos) (fCall0 F) := by
  refine ⟨fun pins s σ H Q I ⟨B, L, ρ, S, env, A, g⟩ => ?_⟩
  refine wpAny_Call_Name_kw (ld_glob I hg hm ?_ hdb)
  refine PySem.W.callWith_K0 I.kIn hk (run_fnS (us := []) (E := WE w.W) FO hr hb (passAt tk σ) I .nil ⟨rfl, B, L, ρ, S, [], A.rh, .nil, ?_⟩)
  revert g
  unfold fCall0
  cases F [] S with
  | ok d S2 => exact fun g => g
  | exc c S2 => exact fun g => g
  | bad => exact fun g => g
end
end Sf
end

section
set_option Elab.async false
set_option maxRecDepth 100000
set_option linter.all false
/-! Sd8: x in a list or a tuple of flat values. -/
namespace Sf
open PySem PySem.Spec PyProof.Rows L2
def flatD : D → Bool
  | .non => true
  | .bl _ => true
  | .int _ => true
  | .str _ => true
  | _ => false
def eqD : D → D → Bool
  | .non, b => match b with
    | .non => true
    | _ => false
  | .bl a, b => match b with
    | .bl b => a == b
    | .int b => (if a then 1 else 0) == b
    | _ => false
  | .int a, b => match b with
    | .bl b => a == (if b then 1 else 0)
    | .int b => a == b
    | _ => false
  | .str a, b => match b with
    | .str b => a == b
    | _ => false
  | _, _ => false
def inD (x : D) (xs : List D) : Bool := xs.any fun y => eqD y x
def seqOf (y : D) (S : Sto) : Option (List D) := match y with
  | .tup l => some l
  | y => lsR y S
def oInG (neg : Bool) : Op2 := fun x y S => match seqOf y S with
  | some l => bif flatD x && l.all flatD then some (.bl (if neg then !inD x l else inD x l), S) else none
  | none => none
abbrev oIn : Op2 := oInG false
abbrev oNin : Op2 := oInG true
section
variable {K : PySem.W.Frag} {B ρ : List Addr} {H : Hp}
theorem flat_ok {d : D} {v : V} (r : RV K B ρ H d v) (h : flatD d = true) : flatV v = true := by
  cases r <;> first | rfl | (cases h; done)
theorem eqD_ok {d e : D} {v w : V} (r : RV K B ρ H d v) (r' : RV K B ρ H e w) (h : flatD d = true) (h' : flatD e = true) : eqV v w = eqD d e := by
  cases r <;> cases r' <;> first | rfl | (cases h; done) | (cases h'; done)
theorem flats_ok : ∀ {ds : List D} {vs : List V}, RVs K B ρ H ds vs → ds.all flatD = true → vs.all flatV = true
  | _, _, .nil, _ => rfl
  | _, _, .cons r t, h => by
    rw [List.all_cons, Bool.and_eq_true] at h
    rw [List.all_cons, flat_ok r h.1, flats_ok t h.2]; rfl
theorem inD_ok {d : D} {v : V} (r : RV K B ρ H d v) (hd : flatD d = true) : ∀ {ds : List D} {vs : List V}, RVs K B ρ H ds vs → ds.all flatD = true → inV v vs = inD d ds
  | _, _, .nil, _ => rfl
  | _, _, .cons r' t, h => by
    rw [List.all_cons, Bool.and_eq_true] at h
    have := inD_ok r hd t h.2
    unfold inV inD at this ⊢
    rw [List.any_cons, List.any_cons, eqD_ok r' r h.1 hd, this]
end
section
variable {X : Cx}
theorem ok_inG {neg : Bool} : Ok2 (pg X) (rIn X.K neg) (oInG neg) := by
  intro B L ρ S S' H d1 d2 d' x y Q R r1 r2 e q
  unfold oInG at e
  have key : ∀ (l : List D) (p : Addr) (xs : List V), RVs X.K B ρ H l xs → (SqL X.K H p xs ∨ SqT X.K H p xs) → y = .ref p →
      (bif flatD d1 && l.all flatD then some (D.bl (if neg then !inD d1 l else inD d1 l), S) else none) = some (d', S') → rIn X.K neg x y H Q := by
    intro l p xs rv hs ey e
    cases hf : (flatD d1 && l.all flatD) with
    | false => rw [hf] at e; cases e
    | true =>
      rw [hf] at e
      cases e
      rw [Bool.and_eq_true] at hf
      refine ⟨p, xs, ey, hs, flat_ok r1 hf.1, flats_ok rv hf.2, ?_⟩
      rw [inD_ok r1 hf.1 rv hf.2]
      exact here q R (.bl _)
  cases hq : seqOf d2 S with
  | none => rw [hq] at e; cases e
  | some l =>
    rw [hq] at e
    simp only at e
    cases r2 with
    | tup h r => cases hq; exact key _ _ _ r (.inr h.sq) rfl e
    | non => cases hq
    | bl b => cases hq
    | int i => cases hq
    | str s => cases hq
    | glob h => cases hq
    | lst h1 h2 h3 h4 => obtain ⟨a, vs, e1, e2, e3⟩ := lsR_ok R (.lst h1 h2 h3 h4) hq; exact key l a vs e3 (.inl e2) e1 e
    | scr h1 h2 => obtain ⟨a, vs, e1, e2, e3⟩ := lsR_ok R (.scr h1 h2) hq; exact key l a vs e3 (.inl e2) e1 e
    | loc h => obtain ⟨a, vs, e1, e2, e3⟩ := lsR_ok R (.loc h) hq; exact key l a vs e3 (.inl e2) e1 e
theorem opr_in : OpR X (compareOp .In) (rIn X.K false) := op_in_seq
theorem opr_nin : OpR X (compareOp .NotIn) (rIn X.K true) := op_notIn_seq
theorem ok_in : Ok2 (pg X) (rIn X.K false) oIn := ok_inG
theorem ok_nin : Ok2 (pg X) (rIn X.K true) oNin := ok_inG
end
end Sf
end

section
set_option Elab.async false
set_option maxRecDepth 100000
set_option linter.all false
/-! Sd9: max of a list of pairs of ints. -/
namespace Sf
open PySem PySem.Spec PyProof.Rows L2
def pairOf (d : D) : Option (Int × Int) := match d with
  | .tup l => match intsD l with
    | some [a, b] => some (a, b)
    | _ => none
  | _ => none
def prsD : List D → Option (List (Int × Int))
  | [] => some []
  | d :: r => match pairOf d, prsD r with
    | some p, some ps => some (p :: ps)
    | _, _ => none
def ltPr (a b : Int × Int) : Bool := decide (a.1 < b.1) || (decide (a.1 = b.1) && decide (a.2 < b.2))
def maxPr (x : Int × Int) (xs : List (Int × Int)) : Int × Int := xs.foldl (fun a y => if ltPr a y then y else a) x
def pairD (p : Int × Int) : D := .tup [.int p.1, .int p.2]
def oMaxP : OpN := fun xs S => match xs with
  | [x] => match lsR x S with
    | some l => match prsD l with
      | some (p :: ps) => some (pairD (maxPr p ps), S)
      | _ => none
    | none => none
  | _ => none
def pyP (p : Int × Int) : PyData := .tuple [.int p.1, .int p.2]
section
variable {G : Pg} {B ρ : List Addr} {H : Hp}
theorem intsD_inv : ∀ {l : List D} {ns : List Int}, intsD l = some ns → l = ns.map D.int
  | [], ns, e => by cases e; rfl
  | d :: r, ns, e => by
    cases d with
    | int i =>
      unfold intsD at e
      cases q : intsD r with
      | none => rw [q] at e; cases e
      | some ms => rw [q] at e; cases e; rw [intsD_inv q]; rfl
    | _ => unfold intsD at e; cases e
theorem dpAll_ints {K : PySem.W.Frag} : ∀ ns : List Int, DpAll K H (ns.map V.int) (ns.map PyData.int)
  | [] => .nil
  | i :: ns => .cons (.int i) (dpAll_ints ns)
theorem pairOf_ok {d : D} {v : V} {p : Int × Int} (h : RV G.K B ρ H d v) (e : pairOf d = some p) : d = pairD p ∧ Dp G.K H v (pyP p) := by
  unfold pairOf at e
  cases h with
  | @tup a ws ds h1 h2 =>
    simp only at e
    cases q : intsD ds with
    | none => rw [q] at e; cases e
    | some ns =>
      rw [q] at e
      match ns, q, e with
      | [x, y], q, e =>
        cases e
        have e1 := intsD_inv q
        have e2 := intsD_ok h2 q
        subst e1 e2
        exact ⟨rfl, .tup h1.sq (dpAll_ints [x, y])⟩
      | [], _, e => cases e
      | [_], _, e => cases e
      | _ :: _ :: _ :: _, _, e => cases e
  | _ => cases e
theorem prsD_ok : ∀ {l : List D} {ps : List (Int × Int)} {vs : List V}, RVs G.K B ρ H l vs → prsD l = some ps → l = ps.map pairD ∧ DpAll G.K H vs (ps.map pyP)
  | [], ps, _, .nil, e => by cases e; exact ⟨rfl, .nil⟩
  | d :: r, ps, _, .cons h t, e => by
    unfold prsD at e
    cases q1 : pairOf d with
    | none => rw [q1] at e; cases e
    | some p =>
      cases q2 : prsD r with
      | none => rw [q1, q2] at e; cases e
      | some ms =>
        rw [q1, q2] at e; cases e
        obtain ⟨a1, a2⟩ := pairOf_ok h q1
        obtain ⟨b1, b2⟩ := prsD_ok t q2
        exact ⟨by rw [a1, b1]; rfl, .cons a2 b2⟩
end
theorem dataLt_pr (a b : Int × Int) : PySem.W.dataLt (pyP a) (pyP b) = ltPr a b := by
  obtain ⟨a1, a2⟩ := a
  obtain ⟨b1, b2⟩ := b
  have e : ∀ x y : Int, PySem.W.keyToks (pyP (x, y)) = [.inl 1, .inl x, .inl 1, .inl y, .inl 0] := fun x y => by
    simp [pyP, PySem.W.keyToks, PySem.W.keyToksAll]
  have d : ∀ x y : Int, PyProof.Rows.lexLt itemOrd [.inl x] [.inl y] = decide (x < y) := fun x y => PySem.W.dataLt_int x y
  unfold PySem.W.dataLt
  rw [e, e]
  have s := fun (x : Int ⊕ List Nat) l m => lex_self (O := itemOrd) x l m
  rw [s]
  unfold ltPr
  by_cases h1 : a1 = b1
  · subst h1
    rw [s, s]
    by_cases h2 : a2 = b2
    · subst h2
      rw [s, d]; simp
    · rw [PySem.W.lex_atom (by intro z; cases z; exact h2 rfl), d]; simp
  · rw [PySem.W.lex_atom (by intro z; cases z; exact h1 rfl), d]; simp [h1]
theorem maxD_pr (p : Int × Int) : ∀ ps : List (Int × Int), PySem.W.maxD (pyP p) (ps.map pyP) = pyP (maxPr p ps) := by
  intro ps
  unfold PySem.W.maxD maxPr
  induction ps generalizing p with
  | nil => rfl
  | cons q r ih =>
    rw [List.map_cons, List.foldl_cons, List.foldl_cons, ← ih, dataLt_pr]
    cases ltPr p q <;> rfl
theorem alike_prs (ps : List (Int × Int)) : PySem.W.AlikeAll (ps.map pyP) := by
  refine ⟨fun x hx y hy => ?_, fun x hx => ?_⟩
  · obtain ⟨p, _, rfl⟩ := List.mem_map.mp hx
    obtain ⟨q, _, rfl⟩ := List.mem_map.mp hy
    simp [pyP, PySem.W.alike, PySem.W.alikeAll]
  · obtain ⟨p, _, rfl⟩ := List.mem_map.mp hx
    intro h; cases h
theorem depth_prs : ∀ ps : List (Int × Int), PyData.depthAll (ps.map pyP) ≤ 1
  | [] => by simp [PyData.depthAll]
  | p :: ps => by
    have := depth_prs ps
    rw [List.map_cons]
    unfold PyData.depthAll
    simp [pyP, PyData.depth, PyData.depthAll]
    omega
/-- max of a list of pairs -/
def rMaxPr (K : PySem.W.Frag) : List V → Hp → VK → Prop := fun vs H Q => ∃ (a : Addr) (xs : List V) (p : Int × Int) (ps : List (Int × Int)), vs = [.ref a] ∧ SqL K H a xs ∧ DpAll K H xs ((p :: ps).map pyP) ∧
  ∀ (i : Nat) (x : V), xs[i]? = some x → (p :: ps)[i]? = some (maxPr p ps) → Q x H
theorem pyP_inj {p q : Int × Int} (h : pyP p = pyP q) : p = q := by
  obtain ⟨a, b⟩ := p
  obtain ⟨c, d⟩ := q
  unfold pyP at h
  simp at h
  rw [h.1, h.2]
theorem callr_maxP {X : Cx} {k : Nat} (hc : X.calm = true) (hr : Room k X.A) : CallR X (.builtin "max") (rMaxPr X.K) := by
  intro pins s σ H vs us Q I r h
  obtain ⟨a, xs, p, ps, rfl, hs, hd, q⟩ := h
  obtain ⟨its, rv, hl, _⟩ := I.list hs
  rw [Vals.ref1 r]
  obtain ⟨as, rd⟩ := Dp.readsAll I _ _ its hd rv
  have hu := hr.units
  refine PySem.W.max_list_data (I.ok.hd hc) hl.isList (x := pyP p) (xs := ps.map pyP) (as := as) (by simpa using rd) (alike_prs (p :: ps)) (by have := depth_prs (p :: ps); have e : PyData.depthAll (pyP p :: ps.map pyP) ≤ 1 := this; omega) fun i v h' tk bs hv hR hk => ?_
  have hv' : its[i]? = some v := by simpa using hv
  obtain ⟨x, hx, rx⟩ : ∃ x, xs[i]? = some x ∧ RelV x v := by
    have key : ∀ {xs : List V} {us : List Value} {i : Nat} {v : Value}, Vals xs us → us[i]? = some v → ∃ x, xs[i]? = some x ∧ RelV x v := by
      intro xs us i v r
      induction r generalizing i with
      | nil => intro h; simp at h
      | cons h _ ih =>
        intro hv
        cases i with
        | zero => simp at hv; subst hv; exact ⟨_, rfl, h⟩
        | succ i => simpa using ih (by simpa using hv)
    exact key rv hv'
  obtain ⟨bs', r2, hlt, _, _⟩ := PySem.W.readsAll_at rd i v hv'
  have det := (PyProof.Rows.reads_det (fun b o e _ => hk b o e) r2 hR).1
  refine ⟨x, H, I.kept hk, rx, q i x hx ?_⟩
  rw [maxD_pr] at det
  rw [List.length_map] at hlt
  have e1 : ((p :: ps).map pyP).getD i .none = pyP ((p :: ps)[i]) := by
    rw [List.getD_eq_getElem?_getD, List.getElem?_map, List.getElem?_eq_getElem hlt]; rfl
  rw [e1] at det
  rw [List.getElem?_eq_getElem hlt, pyP_inj det.symm]
theorem ok_maxP {X : Cx} : OkN (pg X) (rMaxPr X.K) oMaxP := by
  intro B L ρ S S' H ds d' xs Q R r e q
  unfold oMaxP at e
  match ds, r, e with
  | [x], .cons r1 .nil, e =>
    simp only at e
    cases e1 : lsR x S with
    | none => rw [e1] at e; cases e
    | some l =>
      rw [e1] at e
      simp only at e
      cases e2 : prsD l with
      | none => rw [e2] at e; cases e
      | some ps =>
        rw [e2] at e
        cases ps with
        | nil => cases e
        | cons p ps =>
          cases e
          obtain ⟨a, vs, rfl, hs, rv⟩ := lsR_ok R r1 e1
          obtain ⟨el, hd⟩ := prsD_ok rv e2
          refine ⟨a, vs, p, ps, rfl, hs, hd, fun i x hx hi => ?_⟩
          have hli : l[i]? = some (pairD (maxPr p ps)) := by rw [el, List.getElem?_map, hi]; rfl
          obtain ⟨v, hv, rvv⟩ := rv.get hli
          rw [hx] at hv; cases hv
          exact here q R rvv
  | [], .nil, e => cases e
  | _ :: _ :: _, _, e => cases e
end Sf
end

section
set_option Elab.async false
set_option maxRecDepth 100000
set_option linter.all false
/-! Sd10: x[::-1] of a tuple or a list. -/
namespace HT
open PySem PyProof.Rows
section
variable {prog : Program} {w : World} {A : Around} {E : Value → Shared → Prop} {s : Shared}
theorem adjust_rev (n : Nat) : Builtin.Slice.sliceAdjust none none (-1) (n : Int) = ((n : Int) - 1, -1) := by
  unfold Builtin.Slice.sliceAdjust
  simp
theorem places_rev (n : Nat) : Builtin.Slice.slicePlaces ((n : Int) - 1) (-1) (-1) = n := by
  unfold Builtin.Slice.slicePlaces
  have h1 : ¬ ((-1 : Int) > 0) := by omega
  simp only [h1, if_false]
  rw [show (-(-1) : Int) = 1 by decide, Int.ediv_one]
  split <;> omega
theorem pick_rev (xs : Array Value) : ((List.range xs.size).filterMap fun (m : Nat) => xs[((xs.size : Int) - 1 + (m : Int) * -1).toNat]?).toArray = xs.toList.reverse.toArray := by
  rw [← PySem.W.krv_pick]
  unfold slicePick
  rw [PySem.W.krv_bounds]
  show _ = ((sliceRange ((xs.size : Int) - 1) (-1) (-1)).filterMap (xs[·]?)).toArray
  rw [PySem.W.krv_sliceRange, List.filterMap_map]
  congr 1
  have : ∀ l : List Nat, (∀ m ∈ l, m < xs.size) → l.filterMap (fun (m : Nat) => xs[((xs.size : Int) - 1 + (m : Int) * -1).toNat]?) = l.filterMap ((fun x => xs[x]?) ∘ fun k => xs.size - 1 - k) := by
    intro l
    induction l with
    | nil => intro _; rfl
    | cons m l ih =>
      intro h
      have hm := h m (by simp)
      have e : ((xs.size : Int) - 1 + (m : Int) * -1).toNat = xs.size - 1 - m := by omega
      rw [List.filterMap_cons, List.filterMap_cons, ih fun k hk => h k (by simp [hk]), e]
      rfl
  exact this _ fun m hm => List.mem_range.mp hm
theorem sliceApplied_rev {sl : Addr} {vl vu vs : Value} {n : Nat} {Q : Int × Int × Nat → Shared → Prop} (hs : s.heap.IsSliceOf sl vl vu vs) (pl : IsPart vl none) (pu : IsPart vu none) (ps : IsPart vs (some (-1)))
    (h : Q ((n : Int) - 1, -1, n) s) : wpAny (model prog w) A (Builtin.Slice.sliceApplied (.ref sl) (pure (n : Int))) Q E s := by
  obtain ⟨os, hos, hcs, hds⟩ := id hs
  unfold Builtin.Slice.sliceApplied Builtin.Slice.sliceFields
  refine wpAny_bind (wpAny_bind (wpAny_field hos hds (x := vl) rfl (wpAny_bind (wpAny_field hos hds (x := vu) rfl (wpAny_bind (wpAny_field hos hds (x := vs) rfl (wpAny_pure ?_)))))))
  refine wpAny_bind (slicePart_ ps ?_)
  show wpAny _ _ (if ((-1 : Int) == 0) = true then _ else _) _ _ s
  rw [if_neg (by decide)]
  refine wpAny_bind (slicePart_ pl (wpAny_bind (slicePart_ pu (wpAny_bind (wpAny_pure ?_)))))
  show wpAny _ _ (match Builtin.Slice.sliceAdjust none none (-1) (n : Int) with | (lo, hi) => pure (lo, (-1 : Int), Builtin.Slice.slicePlaces lo hi (-1))) _ _ s
  rw [adjust_rev n]
  show wpAny _ _ (pure ((n : Int) - 1, (-1 : Int), Builtin.Slice.slicePlaces ((n : Int) - 1) (-1) (-1))) _ _ s
  rw [places_rev]
  exact wpAny_pure h
theorem getItem_tuple_rev {t sl : Addr} {items : Array Value} {vl vu vs : Value} {Q : Value → Shared → Prop} (ht : IsTup s.heap t items) (hs : s.heap.IsSliceOf sl vl vu vs) (pl : IsPart vl none) (pu : IsPart vu none) (ps : IsPart vs (some (-1)))
    (h : Q (.ref s.heap.objs.size) { s with heap := s.heap.push { cls := .type "tuple", data := .seq items.toList.reverse.toArray } })
    (hsz : items.size ≤ sizeLine) : wpAny (model prog w) A (getItem (.ref t) (.ref sl)) Q E s := by
  have htake : sizeOk (.seq items.toList.reverse.toArray) := by
    show items.toList.reverse.toArray.size ≤ sizeLine
    rw [List.size_toArray, List.length_reverse, Array.length_toList]
    exact hsz
  obtain ⟨os, hos, hcs, hds⟩ := id hs
  have hTs : s.TypeIs (.ref sl) "slice" := ⟨os, hos, hcs⟩
  unfold getItem
  try with_reducible refine wpAny_holding ?_
  first | refine wpAny_bind (wpAny_pure ?_) | skip
  refine wpAny_bind (wpAny_sequenceKey ht.typeIs (by decide) ?_)
  refine wpAny_bind (wpAny_callSpecial?_slot (name := Str.ofString "__getitem__") ht.typeIs PyProof.Rows.slot_tuple_getitem
    (wpAny_call_entry PyProof.Rows.slot_tuple_getitem ht.typeIs entry_tuple_getitem ?_ (args_tuple_getitem _ _)))
  show wpAny _ _ (Builtin.Tuple.tupleItemsOf (.ref t) >>= _) _ _ s
  refine wpAny_bind (tupleItemsOf_ ht ?_)
  refine wpAny_bind (wpAny_typeOf hTs ?_)
  rw [if_pos (by decide)]
  refine wpAny_bind (sliceApplied_rev hs pl pu ps ?_)
  have hno : ¬ ((((items.size : Int) - 1) == 0 && (-1 : Int) == 1 && items.size == items.size) = true) := by
    intro q
    rw [Bool.and_eq_true, Bool.and_eq_true] at q
    exact absurd (eq_of_beq q.1.2) (by decide)
  show wpAny _ _ (if (((items.size : Int) - 1) == 0 && (-1 : Int) == 1 && items.size == items.size) = true then _ else _) _ _ s
  rw [if_neg hno, pick_rev]
  first
    | exact wpAny_bind (m := Builtin.Tuple.tupleExact _) (wpAny_newObj_type (wpAny_pure ⟨_, rfl, wpAny_pure h⟩) htake)
    | exact wpAny_bind (m := Builtin.Tuple.tupleExact _) (wpAny_newObj_type (wpAny_bind (wpAny_pure (wpAny_pure ⟨_, rfl, wpAny_pure h⟩))) htake)
    | exact wpAny_bind (wpAny_bind (m := Builtin.Tuple.tupleExact _) (wpAny_newObj_type (wpAny_pure (wpAny_pure ⟨_, rfl, wpAny_pure h⟩)) htake))
    | exact wpAny_bind (wpAny_bind (m := Builtin.Tuple.tupleExact _) (wpAny_newObj_type (wpAny_pure ⟨_, rfl, wpAny_pure h⟩) htake))
end
end HT
namespace L2
open PySem PySem.Spec PyProof.Rows
def tRevA (K : PySem.W.Frag) (te : TE) : TE := fun σ H Q => te σ H fun x H1 => ∃ a xs, x = .ref a ∧ ((SqL K H1 a xs ∧ ∀ p, H1 p = none → Q (.ref p) (upd H1 p (.lst xs.reverse))) ∨ (SqT K H1 a xs ∧ ∀ p, H1 p = none → Q (.ref p) (upd H1 p (.tup xs.reverse))))
section
variable {X : Cx}
theorem pe_revA {e : Expr} {te : TE} {k : Nat} {p1 p2 p3 pos : Pos} (he : PE X e te) : PE X (.Subscript e (.Slice none none (some (.UnaryOp .USub (.Constant (.int 1) k p1) p2)) p3) pos) (tRevA X.K te) := by
  refine ⟨fun pins s σ H Q I h => ?_⟩
  refine Subscript_ (thn (he.run pins s σ H _ I h) fun v s1 ⟨x, H1, I1, r1, q1⟩ => ?_)
  obtain ⟨a, xs, ex, hq⟩ := q1
  subst ex
  cases r1
  have hst : PO X (some (.UnaryOp .USub (.Constant (.int 1) k p1) p2)) (tPart (tUn (rU fun i => .int (-i)) (tC (.int 1)))) := po_some (pe_un un_neg pe_int)
  refine wpAny_Slice (thn (po_none.run pins s1 σ H1 (fun o H2 => o = none ∧ H2 = H1) I1 ⟨rfl, rfl⟩) fun vl s2 ⟨l, H2, I2, pl, el, e2⟩ => ?_)
  subst el e2
  refine thn (po_none.run pins s2 σ H2 (fun o H3 => o = none ∧ H3 = H2) I2 ⟨rfl, rfl⟩) fun vu s3 ⟨u, H3, I3, pu, eu, e3⟩ => ?_
  subst eu e3
  refine thn (hst.run pins s3 σ H3 (fun o H4 => o = some (-1) ∧ H4 = H3) I3 ⟨1, rfl, -1, rfl, rfl, rfl⟩) fun vs s4 ⟨o, H4, I4, ps, eo, e4⟩ => ?_
  subst eo e4
  have I5 : Inv X pins σ H4 { s4 with heap := s4.heap.push { cls := .type "slice", data := .fields #[vl, vu, vs] } } := I4.kept (t' := s4.toks) fun b ob q => Heap.get?_push_of_some _ q
  show wpAny (model X.prog X.w) X.A (subscriptTail e (.Slice none none (some (.UnaryOp .USub (.Constant (.int 1) k p1) p2)) p3) (.ref a) (.ref s4.heap.objs.size)) (EP X pins σ Q) X.xe { s4 with heap := s4.heap.push { cls := .type "slice", data := .fields #[vl, vu, vs] } }
  rcases hq with ⟨hx, q⟩ | ⟨hx, q⟩
  · obtain ⟨its, r, ht, hz⟩ := I5.list hx
    have hlen := r.length
    refine tail_any (ops := [.ref a, .ref s4.heap.objs.size]) ht.isList.typeIs (PySem.slot_list_getitem.lookup) ?_ (by with_unfolding_all rfl)
    refine wpAny_getItem_list_slice ht.isList (Heap.IsSliceOf.new _ vl vu vs) pl pu ps (by decide) ?_ (by rw [List.size_toArray]; omega)
    rw [PySem.W.krv_pick]
    refine ⟨.ref _, _, I5.laid (t' := s4.toks) (o := .lst xs.reverse) (fun b ob q => Heap.get?_push_of_some _ q) (Nat.le_refl _) ?_, rfl, q _ (I5.hok.fresh (Nat.le_refl _))⟩
    exact ⟨by rw [List.length_reverse]; exact hz, _, 0, r.reverse, Heap.get?_push_size _ rfl⟩
  · obtain ⟨its, r, ht, hz⟩ := I5.tuple hx
    have hlen := r.length
    refine tail_any (ops := [.ref a, .ref s4.heap.objs.size]) ht.typeIs (PyProof.Rows.slot_tuple_getitem.lookup) ?_ (by with_unfolding_all rfl)
    refine HT.getItem_tuple_rev ht (Heap.IsSliceOf.new _ vl vu vs) pl pu ps ?_ (by rw [List.size_toArray]; omega)
    refine ⟨.ref _, _, I5.laid (t' := s4.toks) (o := .tup xs.reverse) (fun b ob q => Heap.get?_push_of_some _ q) (Nat.le_refl _) ?_, rfl, q _ (I5.hok.fresh (Nat.le_refl _))⟩
    exact ⟨by rw [List.length_reverse]; exact hz, _, r.reverse, IsTup.new _ _⟩
end
end L2
namespace Sf
open PySem PySem.Spec PyProof.Rows L2
def oRevA (m : Bool) : Op1 := fun x S => match x with
  | .tup l => some (.tup l.reverse, S)
  | x => oRev m x S
section
variable {X : Cx} {w : Wx} {e : Expr} {fe : FE} {pos : Pos}
theorem se_revA {m : Bool} {k : Nat} {p1 p2 p3 : Pos} (he : SE X w e fe) : SE X w (.Subscript e (.Slice none none (some (.UnaryOp .USub (.Constant (.int 1) k p1) p2)) p3) pos) (fOp1 (oRevA m) fe) :=
  PE.imp (pe_revA he) fun σ H Q ⟨B, L, ρ, S, env, A, gg⟩ => go_op1 (X := X) (r := fun x H1 Q => ∃ a xs, x = .ref a ∧ ((SqL X.K H1 a xs ∧ ∀ p, H1 p = none → Q (.ref p) (upd H1 p (.lst xs.reverse))) ∨ (SqT X.K H1 a xs ∧ ∀ p, H1 p = none → Q (.ref p) (upd H1 p (.tup xs.reverse))))) (fun B L ρ S S' H d d' x Q R r e q => by
    have gen : oRev m d S = some (d', S') → ∃ a xs, x = .ref a ∧ ((SqL X.K H a xs ∧ ∀ p, H p = none → Q (.ref p) (upd H p (.lst xs.reverse))) ∨ (SqT X.K H a xs ∧ ∀ p, H p = none → Q (.ref p) (upd H p (.tup xs.reverse)))) := by
      intro e
      unfold oRev at e
      cases e1 : lsR d S with
      | none => rw [e1] at e; cases e
      | some l =>
        rw [e1] at e
        obtain ⟨a, vs, rfl, h1, h2⟩ := lsR_ok (G := pg X) R r e1
        exact ⟨a, vs, rfl, .inl ⟨h1, (mkL_ok R h2.reverse e q).2⟩⟩
    cases r with
    | @tup a vs ds h1 h2 =>
      cases e
      exact ⟨a, vs, rfl, .inr ⟨h1.sq, mkT_ok R h2.reverse q⟩⟩
    | _ => exact gen e) A gg
end
end Sf
end

section
set_option Elab.async false
set_option maxRecDepth 100000
set_option linter.all false
/-! Sp: the combinators as rules for simp. -/
namespace Sf
open PySem PySem.Spec PyProof.Rows L2
section
variable {α β : Type} {env : En} {S : Sto} {a b c : FE} {ft ft' : FT} {fs fr : FA} {f g : FS}
@[simp] theorem x_bind {x : α} {k : α → Sto → Out β} : (Out.ok x S).bind k = k x S := rfl
@[simp] theorem x_bindS {x : α} {k : α → Sto → SR} : (Out.ok x S).bindS k = k x S := rfl
@[simp] theorem x_bindN {k : En → Sto → SR} : (SR.nx env S).bindN k = k env S := rfl
@[simp] theorem x_bindNr {d : D} {k : En → Sto → SR} : (SR.rt d S).bindN k = .rt d S := rfl
@[simp] theorem x_bindNb {k : En → Sto → SR} : (SR.bk env S).bindN k = .bk env S := rfl
@[simp] theorem x_bindNc {k : En → Sto → SR} : (SR.ct env S).bindN k = .ct env S := rfl
@[simp] theorem x_var {i : Nat} : fVar i env S = match env[i]? with
  | some d => match d with
    | .und => .bad
    | d => .ok d S
  | none => .bad := rfl
@[simp] theorem x_con {d : D} : fCon d env S = .ok d S := rfl
@[simp] theorem x_outO {x : α} : outO (some (x, S)) = .ok x S := rfl
@[simp] theorem x_op1 {o : Op1} : fOp1 o a env S = (a env S).bind fun x S1 => outO (o x S1) := rfl
@[simp] theorem x_op2 {o : Op2} : fOp2 o a b env S = (a env S).bind fun x S1 => (b env S1).bind fun y S2 => outO (o x y S2) := rfl
@[simp] theorem x_nil : fNil env S = .ok [] S := rfl
@[simp] theorem x_cons : fCons a fs env S = (a env S).bind fun x S1 => (fs env S1).bind fun xs S2 => .ok (x :: xs) S2 := rfl
@[simp] theorem x_opN {o : OpN} : fOpN o fs env S = (fs env S).bind fun xs S1 => outO (o xs S1) := rfl
@[simp] theorem x_val : tVal a env S = (a env S).bind fun x S1 => match x with
  | .bl b => .ok b S1
  | _ => .bad := rfl
@[simp] theorem x_and : Sf.tAnd ft ft' env S = (ft env S).bind fun x S1 => bif x then ft' env S1 else .ok false S1 := rfl
@[simp] theorem x_or : Sf.tOr ft ft' env S = (ft env S).bind fun x S1 => bif x then .ok true S1 else ft' env S1 := rfl
@[simp] theorem x_not : Sf.tNot ft env S = (ft env S).bind fun x S1 => .ok (!x) S1 := rfl
@[simp] theorem x_if : fIf ft a b env S = (ft env S).bind fun x S1 => bif x then a env S1 else b env S1 := rfl
@[simp] theorem x_fand : fAnd a b env S = (a env S).bind fun x S1 => match x with
  | .bl c => bif c then b env S1 else .ok (.bl false) S1
  | _ => .bad := rfl
@[simp] theorem x_for : fOr a b env S = (a env S).bind fun x S1 => match x with
  | .bl c => bif c then .ok (.bl true) S1 else b env S1
  | _ => .bad := rfl
@[simp] theorem x_fnot : fNot a env S = (a env S).bind fun x S1 => match x with
  | .bl c => .ok (.bl (!c)) S1
  | _ => .bad := rfl
@[simp] theorem x_skip : sSkip env S = .nx env S := rfl
@[simp] theorem x_seq : sSeq f g env S = (f env S).bindN g := rfl
@[simp] theorem x_break : sBreak env S = .bk env S := rfl
@[simp] theorem x_cont : sCont env S = .ct env S := rfl
@[simp] theorem x_expr : sExpr a env S = (a env S).bindS fun _ S1 => .nx env S1 := rfl
@[simp] theorem x_ret : sRet a env S = (a env S).bindS fun x S1 => .rt x S1 := rfl
@[simp] theorem x_sif : sIf ft f g env S = (ft env S).bindS fun x S1 => bif x then f env S1 else g env S1 := rfl
@[simp] theorem x_asg {i : Nat} : sAsg i a env S = (a env S).bindS fun x S1 => .nx (env.set i x) S1 := rfl
@[simp] theorem x_asgT {is : List Nat} : sAsgT is a env S = (a env S).bindS fun x S1 => match unTup is x env with
  | some env' => .nx env' S1
  | none => .bad := rfl
@[simp] theorem x_unTup {is : List Nat} {l : List D} : unTup is (.tup l) env = bif Nat.beq l.length is.length then some (setAllE env is l) else none := rfl
@[simp] theorem x_set1 {i : Nat} {is : List Nat} {d : D} {l : List D} : setAllE env (i :: is) (d :: l) = setAllE (env.set i d) is l := rfl
@[simp] theorem x_set0 : setAllE env [] [] = env := rfl
@[simp] theorem x_par2 {i j : Nat} : sPar2 i j fs env S = (fs env S).bindS fun xs S1 => bif len2 xs then .nx (setAllE env [i, j] xs) S1 else .bad := rfl
@[simp] theorem x_par3 {i j k : Nat} : sPar3 i j k fs env S = (fs env S).bindS fun xs S1 => bif len3 xs then .nx (setAllE env [i, j, k] xs) S1 else .bad := rfl
@[simp] theorem x_len2 {x y : D} : len2 [x, y] = true := rfl
@[simp] theorem x_len3 {x y z : D} : len3 [x, y, z] = true := rfl
@[simp] theorem x_asgIx : sAsgIx a b c env S = (a env S).bindS fun x S1 => (b env S1).bindS fun o S2 => (c env S2).bindS fun i S3 => match setO o i x S3 with
  | some S4 => .nx env S4
  | none => .bad := rfl
@[simp] theorem x_aug {i : Nat} {o : Op2} : sAug i o a env S = (fVar i env S).bindS fun x S1 => (a env S1).bindS fun y S2 => match o x y S2 with
  | some (z, S3) => .nx (env.set i z) S3
  | none => .bad := rfl
@[simp] theorem x_augIx {o : Op2} : sAugIx o a b c env S = (a env S).bindS fun o' S1 => (b env S1).bindS fun i S2 => augK o c env o' i S2 := rfl
@[simp] theorem x_augK {o : Op2} {n : Nat} {k : Int} : augK o a env (.loc n) (.int k) S = match oIx (.loc n) (.int k) S with
    | some (x, S3) => (a env S3).bindS fun y S4 => augJ o env (.loc n) (.int k) x y S4
    | none => .bad := rfl
@[simp] theorem x_augJ {o : Op2} {d i x y : D} : augJ o env d i x y S = match o x y S with
  | some (z, S5) => sto env (setO d i z S5)
  | none => .bad := rfl
@[simp] theorem x_sto : sto env (some S) = .nx env S := rfl
@[simp] theorem x_tup : fTup fs env S = (fs env S).bind fun xs S1 => bif fit xs.length then .ok (.tup xs) S1 else .bad := rfl
@[simp] theorem x_lst {m : Bool} : fLst m fs env S = (fs env S).bind fun xs S1 => outO (mkL m xs S1) := rfl
@[simp] theorem x_call {F : Fn} : fCall F fs env S = (fs env S).bind fun ds S1 => F ds S1 := rfl
@[simp] theorem x_chain {p q : Int → Int → Bool} : fChain p q a b c env S = (a env S).bind fun x S1 => (b env S1).bind fun y S2 => match x, y with
  | .int i, .int j => bif p i j then (c env S2).bind fun z S3 => (match z with
      | .int k => .ok (.bl (q j k)) S3
      | _ => .bad) else .ok (.bl false) S2
  | _, _ => .bad := rfl
@[simp] theorem x_iSq : iSq a env S = (a env S).bind fun x S1 => match itemsD x with
  | some l => .ok l S1
  | none => .bad := rfl
@[simp] theorem x_iOf {k : List D → Option (List D)} : iOf k fs env S = (fs env S).bind fun xs S1 => match k xs with
  | some l => .ok l S1
  | none => .bad := rfl
@[simp] theorem x_tgName {i : Nat} {d : D} : tgName i d env = some (env.set i d) := rfl
@[simp] theorem x_for_ {g : D → En → Option En} : sFor fs g f env S = (fs env S).bindS fun l S1 => forL g f l env S1 := rfl
@[simp] theorem x_yes : tYesF env S = .ok true S := rfl
@[simp] theorem x_comp {m : Bool} {g : D → En → Option En} {vs : List Nat} : fComp m fs g ft a vs env S = (fs env S).bind fun l S1 => bif fit l.length then
  (match compL g ft a (undE env vs) l S1 with
  | .ok xs S2 => bif m then .ok (.loc S2.length) (S2 ++ [.lst xs]) else .ok (.lst xs) S2
  | _ => .bad) else .bad := rfl
@[simp] theorem x_und0 : undE env [] = env := rfl
@[simp] theorem x_und1 {v : Nat} {vs : List Nat} : undE env (v :: vs) = (undE env vs).set v .und := rfl
/-! the operations -/
@[simp] theorem x_add {m : Bool} {i j : Int} : oAdd m (.int i) (.int j) S = some (.int (i + j), S) := rfl
@[simp] theorem x_addI {i j : Int} : oAddI (.int i) (.int j) S = some (.int (i + j), S) := rfl
@[simp] theorem x_sub {i j : Int} : oSub (.int i) (.int j) S = some (.int (i - j), S) := rfl
theorem x_mul {m : Bool} {i j : Int} : oMul m (.int i) (.int j) S = bif mulOk i j then some (.int (i * j), S) else none := rfl
theorem x_mod {i j : Int} : oMod (.int i) (.int j) S = bif (decide (0 < j)) then some (.int (i % j), S) else none := rfl
theorem x_fdiv {i j : Int} : oFdiv (.int i) (.int j) S = bif (decide (0 < j)) && Nat.blt j.natAbs.log2 9000 then some (.int (i / j), S) else
      bif (decide (j < 0)) && Nat.blt j.natAbs.log2 9000 then some (.int (i.fdiv j), S) else none := rfl
@[simp] theorem x_neg {i : Int} : oNeg (.int i) S = some (.int (-i), S) := rfl
@[simp] theorem x_ixT {i : Int} {l : List D} : oIx (.tup l) (.int i) S = match ixD l i with
      | some d => some (d, S)
      | none => none := rfl
@[simp] theorem x_ixL {i : Int} {l : List D} : oIx (.lst l) (.int i) S = match ixD l i with
      | some d => some (d, S)
      | none => none := rfl
@[simp] theorem x_ixS {i : Int} {l : List D} : oIx (.scr l) (.int i) S = match ixD l i with
      | some d => some (d, S)
      | none => none := rfl
@[simp] theorem x_ix0 {l : List D} : ixD l 0 = l[0]? := rfl
@[simp] theorem x_ix1 {l : List D} : ixD l 1 = l[1]? := rfl
@[simp] theorem x_ix2 {l : List D} : ixD l 2 = l[2]? := rfl
@[simp] theorem x_ix3 {l : List D} : ixD l 3 = l[3]? := rfl
@[simp] theorem x_ix4 {l : List D} : ixD l 4 = l[4]? := rfl
@[simp] theorem x_gt {i j : Int} : oGt (.int i) (.int j) S = some (.bl (decide (j < i)), S) := rfl
@[simp] theorem x_ge {i j : Int} : oGe (.int i) (.int j) S = some (.bl (decide (j ≤ i)), S) := rfl
@[simp] theorem x_lt {i j : Int} : oLt (.int i) (.int j) S = some (.bl (decide (i < j)), S) := rfl
@[simp] theorem x_le {i j : Int} : oLe (.int i) (.int j) S = some (.bl (decide (i ≤ j)), S) := rfl
@[simp] theorem x_eqI {i j : Int} : oEq (.int i) (.int j) S = some (.bl (decide (i = j)), S) := rfl
@[simp] theorem x_neI {i j : Int} : oNe (.int i) (.int j) S = some (.bl (!decide (i = j)), S) := rfl
@[simp] theorem x_eqN {i : Int} : oEq (.int i) .non S = some (.bl false, S) := rfl
@[simp] theorem x_neN {i : Int} : oNe (.int i) .non S = some (.bl true, S) := rfl
@[simp] theorem x_eqN' {i : Int} : oEq .non (.int i) S = some (.bl false, S) := rfl
@[simp] theorem x_neN' {i : Int} : oNe .non (.int i) S = some (.bl true, S) := rfl
@[simp] theorem x_eqNN : oEq .non .non S = some (.bl true, S) := rfl
@[simp] theorem x_neNN : oNe .non .non S = some (.bl false, S) := rfl
@[simp] theorem x_isN {d : D} : oIs d .non S = some (.bl (isNon d), S) := rfl
@[simp] theorem x_isNN {d : D} : oIsN d .non S = some (.bl (!isNon d), S) := rfl
@[simp] theorem x_isB {a b : Bool} : oIs (.bl a) (.bl b) S = some (.bl (a == b), S) := rfl
@[simp] theorem x_isNB {a b : Bool} : oIsN (.bl a) (.bl b) S = some (.bl (!(a == b)), S) := rfl
@[simp] theorem x_isNon0 : isNon .non = true := rfl
@[simp] theorem x_isNonI {i : Int} : isNon (.int i) = false := rfl
@[simp] theorem x_isNonT {l : List D} : isNon (.tup l) = false := rfl
@[simp] theorem x_isNonL {l : List D} : isNon (.lst l) = false := rfl
@[simp] theorem x_lenT {l : List D} : oLen [.tup l] S = some (.int l.length, S) := rfl
@[simp] theorem x_lenL {l : List D} : oLen [.lst l] S = some (.int l.length, S) := rfl
@[simp] theorem x_lenS {l : List D} : oLen [.scr l] S = some (.int l.length, S) := rfl
@[simp] theorem x_tupT {l : List D} : oTuple [.tup l] S = some (.tup l, S) := rfl
@[simp] theorem x_tupL {l : List D} : oTuple [.lst l] S = some (.tup l, S) := rfl
@[simp] theorem x_itemsT {l : List D} : itemsD (.tup l) = some l := rfl
@[simp] theorem x_itemsL {l : List D} : itemsD (.lst l) = some l := rfl
@[simp] theorem x_itemsS {l : List D} : itemsD (.scr l) = some l := rfl
/-! functions -/
theorem fit_of {n : Nat} (h : n ≤ 16777216) : fit n = true := Nat.ble_eq_true_of_le h
/-- a function that made nothing new -/
theorem endF_same {d : D} : endF S.length d S = .ok d S := by unfold endF; rw [show Nat.beq S.length S.length = true from Nat.beq_refl _]; rfl
/-- a function without a store -/
theorem pure_eq {F : Fn} {ds : List D} {d : D} (hl : lowL 0 ds = true) (h : F ds [] = .ok d []) : pureF F ds S = .ok d S := by
  unfold pureF; rw [hl, h]; rfl
theorem lowL_map (f : α → D) (h : ∀ x, lowD 0 (f x) = true) : ∀ l : List α, lowL 0 (l.map f) = true
  | [] => rfl
  | x :: l => by
    rw [List.map_cons]; show (lowD 0 (f x) && lowL 0 (l.map f)) = true
    rw [h x, lowL_map f h l]; rfl
end
end Sf
end

section
set_option Elab.async false
set_option maxRecDepth 100000
set_option linter.all false
/-! Sq: trees of numbers; equality; items. -/
namespace Sf
open PySem PySem.Spec PyProof.Rows L2
/-! a tree of numbers, bools, None, tuples and lists -/
mutual
def pl : Nat → D → Bool
  | _, .non => true
  | _, .bl _ => true
  | _, .int _ => true
  | n + 1, .tup l => plL n l
  | n + 1, .lst l => plL n l
  | n + 1, .scr l => plL n l
  | _, _ => false
def plL : Nat → List D → Bool
  | _, [] => true
  | n, d :: ds => pl n d && plL n ds
end
mutual
theorem pl_ok : ∀ (n : Nat) (d : D), pl n d = true → ∃ p, D.py d = some p ∧ p.canLay0 = true ∧ p.depth ≤ n
  | n, .und, h => by cases n <;> cases h
  | n, .non, h => ⟨_, rfl, rfl, Nat.zero_le _⟩
  | n, .bl _, h => ⟨_, rfl, rfl, Nat.zero_le _⟩
  | n, .int _, h => ⟨_, rfl, rfl, Nat.zero_le _⟩
  | n, .str _, h => by cases n <;> cases h
  | 0, .tup l, h => by cases h
  | n + 1, .tup l, h => by
    obtain ⟨ps, h1, h2, h3⟩ := plL_ok n l h
    exact ⟨.tuple ps, by unfold D.py; rw [h1]; rfl, by unfold PyData.canLay0; exact h2, by unfold PyData.depth; omega⟩
  | 0, .lst l, h => by cases h
  | n + 1, .lst l, h => by
    obtain ⟨ps, h1, h2, h3⟩ := plL_ok n l h
    exact ⟨.list ps, by unfold D.py; rw [h1]; rfl, by unfold PyData.canLay0; exact h2, by unfold PyData.depth; omega⟩
  | 0, .scr l, h => by cases h
  | n + 1, .scr l, h => by
    obtain ⟨ps, h1, h2, h3⟩ := plL_ok n l h
    exact ⟨.list ps, by unfold D.py; rw [h1]; rfl, by unfold PyData.canLay0; exact h2, by unfold PyData.depth; omega⟩
  | n, .loc _, h => by cases n <;> cases h
  | n, .glob _, h => by cases n <;> cases h
theorem plL_ok : ∀ (n : Nat) (l : List D), plL n l = true → ∃ ps, D.pys l = some ps ∧ PyData.canLayAll0 ps = true ∧ PyData.depthAll ps ≤ n
  | n, [], _ => ⟨[], by simp [D.pys], rfl, Nat.zero_le _⟩
  | n, d :: l, h => by
    have h : pl n d = true ∧ plL n l = true := by
      have : (pl n d && plL n l) = true := by rw [← h]; cases n <;> simp [plL]
      simpa using this
    obtain ⟨p, h1, h2, h3⟩ := pl_ok n d h.1
    obtain ⟨ps, k1, k2, k3⟩ := plL_ok n l h.2
    exact ⟨p :: ps, by unfold D.pys; rw [h1, k1], by unfold PyData.canLayAll0; rw [h2, k2]; rfl, by unfold PyData.depthAll; omega⟩
end
theorem deref_pl {n : Nat} {d : D} {S : Sto} (h : pl n d = true) : deref S d = d := by
  cases d <;> first | rfl | (cases n <;> cases h)
theorem eqB_gen {x y : D} {S : Sto} {p q : PyData} (h1 : D.py (deref S x) = some p) (h2 : D.py (deref S y) = some q) (hp : SeqAt.shaped p = true) (hq : SeqAt.shaped q = true) : eqB x y S = some (PyData.eqv p q) := by
  unfold eqB
  split
  · cases h1; cases h2; simp [PyData.eqv, Bool.beq_eq_decide_eq]
  · cases h1; cases h2; simp [PyData.eqv]
  · cases h1; cases h2; simp [PyData.eqv]
  · cases h1; cases h2; simp [PyData.eqv]
  · cases h1; cases h2; simp [PyData.eqv]
  · cases h1; cases h2
    unfold PyData.eqv
    rename_i a b
    by_cases h : a = b
    · rw [decide_eq_true h, h]; simp
    · rw [decide_eq_false h]; simp [h]
  · rw [h1, h2]; simp only; rw [hp, hq]; rfl
theorem eqB_pl {n : Nat} {d e : D} {S : Sto} (h : pl n d = true) (h' : pl n e = true) (hn : n ≤ 64) : ∃ p q, D.py d = some p ∧ D.py e = some q ∧ p.canLay0 = true ∧ q.canLay0 = true ∧ eqB d e S = some (PyData.eqv p q) := by
  obtain ⟨p, h1, h2, h3⟩ := pl_ok n d h
  obtain ⟨q, k1, k2, k3⟩ := pl_ok n e h'
  exact ⟨p, q, h1, k1, h2, k2, eqB_gen (by rw [deref_pl h]; exact h1) (by rw [deref_pl h']; exact k1) (by unfold SeqAt.shaped; rw [h2]; simp; omega) (by unfold SeqAt.shaped; rw [k2]; simp; omega)⟩
theorem eqB_self {n : Nat} {d : D} {S : Sto} (h : pl n d = true) (hn : n ≤ 64) : eqB d d S = some true := by
  obtain ⟨p, q, h1, h2, h3, h4, e⟩ := eqB_pl (S := S) h h hn
  rw [h1] at h2; cases h2
  rw [e, SeqAt.eqv_refl p h3]
theorem oEq_self {n : Nat} {d : D} {S : Sto} (h : pl n d = true) (hn : n ≤ 64) : oEq d d S = some (.bl true, S) := by unfold oEq; rw [eqB_self h hn]
theorem oNe_self {n : Nat} {d : D} {S : Sto} (h : pl n d = true) (hn : n ≤ 64) : oNe d d S = some (.bl false, S) := by unfold oNe; rw [eqB_self h hn]; rfl
theorem plL_map {α : Type} {n : Nat} (f : α → D) (h : ∀ x, pl n (f x) = true) : ∀ l : List α, plL n (l.map f) = true
  | [] => by cases n <;> simp [plL]
  | x :: l => by
    have : plL n (f x :: l.map f) = (pl n (f x) && plL n (l.map f)) := by cases n <;> simp [plL]
    rw [List.map_cons, this, h x, plL_map f h l]; rfl
theorem pl_int {n : Nat} {i : Int} : pl n (.int i) = true := by cases n <;> simp [pl]
theorem pl_non {n : Nat} : pl n .non = true := by cases n <;> simp [pl]
theorem plL_ints {n : Nat} (l : List Int) : plL n (l.map D.int) = true := plL_map D.int (fun _ => pl_int) l
theorem pys_ints : ∀ l : List Int, D.pys (l.map D.int) = some (l.map PyData.int)
  | [] => by simp [D.pys]
  | i :: l => by
    rw [List.map_cons]; unfold D.pys; rw [pys_ints l]; rfl
theorem eqScr0 {l : List Int} {S : Sto} : oEq (.scr (l.map D.int)) (.lst []) S = some (.bl l.isEmpty, S) := by
  obtain ⟨p, q, h1, h2, h3, h4, e⟩ := eqB_pl (S := S) (n := 1) (d := .scr (l.map D.int)) (e := .lst []) (plL_ints l) rfl (by omega)
  unfold oEq
  rw [e]
  unfold D.py at h1 h2
  rw [pys_ints] at h1
  cases h1
  rw [show D.pys [] = some [] from by simp [D.pys]] at h2
  cases h2
  cases l <;> simp [PyData.eqv, PyData.eqvAll]
theorem intsD_ints : ∀ l : List Int, intsD (l.map D.int) = some l
  | [] => by simp [intsD]
  | i :: l => by rw [List.map_cons]; unfold intsD; rw [intsD_ints l]
theorem blsD_bls : ∀ l : List Bool, blsD (l.map D.bl) = some l
  | [] => by simp [blsD]
  | i :: l => by rw [List.map_cons]; unfold blsD; rw [blsD_bls l]
@[simp] theorem x_ixn20 : ixN 2 0 = some 0 := rfl
@[simp] theorem x_ixn21 : ixN 2 1 = some 1 := rfl
section
variable {S : Sto}
@[simp] theorem x_ixLoc {n : Nat} {i : Int} : oIx (.loc n) (.int i) S = match lsW (.loc n) S with
      | some l => (match ixD l i with
        | some d => some (d, S)
        | none => none)
      | none => none := rfl
@[simp] theorem x_lsWL {n : Nat} : lsW (.loc n) S = match S[n]? with
    | some (.lst l) => some l
    | _ => none := rfl
@[simp] theorem x_setO {n : Nat} {k : Int} {v : D} : setO (.loc n) (.int k) v S = match S[n]? with
    | some (.lst l) => (match ixN l.length k with
      | some j => some (S.set n (.lst (l.set j v)))
      | none => none)
    | _ => none := rfl
@[simp] theorem x_mkF {l : List D} : mkL false l S = bif fit l.length then some (.lst l, S) else none := rfl
@[simp] theorem x_mkT {l : List D} : mkL true l S = bif fit l.length then some (.loc S.length, S ++ [.lst l]) else none := rfl
@[simp] theorem x_fit0 : fit 0 = true := rfl
@[simp] theorem x_fit1 : fit 1 = true := rfl
@[simp] theorem x_fit2 : fit 2 = true := rfl
@[simp] theorem x_fit3 : fit 3 = true := rfl
@[simp] theorem x_fit4 : fit 4 = true := rfl
@[simp] theorem x_fit5 : fit 5 = true := rfl
@[simp] theorem x_fit6 : fit 6 = true := rfl
@[simp] theorem x_fit7 : fit 7 = true := rfl
@[simp] theorem x_fit8 : fit 8 = true := rfl
@[simp] theorem x_fit9 : fit 9 = true := rfl
@[simp] theorem x_fit10 : fit 10 = true := rfl
@[simp] theorem x_fit11 : fit 11 = true := rfl
@[simp] theorem x_fit12 : fit 12 = true := rfl
@[simp] theorem x_tupLoc {n : Nat} : oTuple [.loc n] S = match lsW (.loc n) S with
    | some l => some (.tup l, S)
    | none => none := rfl
def forK (g : D → En → Option En) (b : FS) (r : List D) : SR → SR
      | .nx env' S' => forL g b r env' S'
      | .ct env' S' => forL g b r env' S'
      | .bk env' S' => .nx env' S'
      | r => r
theorem forL_cons {g : D → En → Option En} {b : FS} {d : D} {r : List D} {env env1 : En} (h : g d env = some env1) : forL g b (d :: r) env S = forK g b r (b env1 S) := by
  show (match g d env with
    | none => SR.bad
    | some env1 => forK g b r (b env1 S)) = _
  rw [h]
theorem enumL_cons {k : Nat} {d : D} {l : List D} : enumL k (d :: l) = .tup [.int k, d] :: enumL (k + 1) l := rfl
theorem end_rt {d : D} {n : Nat} (h : S.length = n) : fnEnd false n (.rt d S) = .ok d S := by subst h; exact endF_same
theorem ix_nn {l : List D} {i : Int} (h : 0 ≤ i) : ixD l i = l[i.toNat]? := by unfold ixD; rw [decide_eq_true h]; rfl
theorem ix_int {l : List Int} {i : Int} (h : 0 ≤ i) (h' : i < l.length) : ∃ k, l[i.toNat]? = some k ∧ ixD (l.map D.int) i = some (.int k) := by
  refine ⟨l[i.toNat]'(by omega), List.getElem?_eq_getElem _, ?_⟩
  rw [ix_nn h, List.getElem?_map, List.getElem?_eq_getElem (show i.toNat < l.length by omega)]; rfl
theorem mul_r {m : Bool} {i j : Int} (h : Nat.blt j.natAbs 18446744073709551616 = true) : oMul m (.int i) (.int j) S = some (.int (i * j), S) := by
  rw [x_mul]; unfold mulOk; rw [h]; simp
theorem mul_l {m : Bool} {i j : Int} (h : Nat.blt i.natAbs 18446744073709551616 = true) : oMul m (.int i) (.int j) S = some (.int (i * j), S) := by
  rw [x_mul]; unfold mulOk; rw [h]; simp
theorem mod_ok {i j : Int} (h : 0 < j) : oMod (.int i) (.int j) S = some (.int (i % j), S) := by rw [x_mod, decide_eq_true h]; rfl
theorem log_small {j : Int} (h : 0 < j) (h' : j < 1000000) : Nat.blt j.natAbs.log2 9000 = true := by
  have : j.natAbs.log2 < 20 := by rw [Nat.log2_lt (by omega)]; omega
  exact Nat.ble_eq_true_of_le (by omega)
theorem fdiv_ok {i j : Int} (h : 0 < j) (h' : j < 1000000) : oFdiv (.int i) (.int j) S = some (.int (i / j), S) := by
  rw [x_fdiv, decide_eq_true h, log_small h h']; rfl
end
mutual
theorem frz_pl {S : Sto} {m : Nat} : ∀ (d : D) (n k : Nat), pl n d = true → n < k → frzD k S m d = some d
  | .und, n, k, h, _ => by cases n <;> cases h
  | .non, n, k + 1, h, _ => rfl
  | .bl _, n, k + 1, h, _ => rfl
  | .int _, n, k + 1, h, _ => rfl
  | .str _, n, k, h, _ => by cases n <;> cases h
  | .tup l, 0, k, h, _ => by cases h
  | .lst l, 0, k, h, _ => by cases h
  | .scr l, 0, k, h, _ => by cases h
  | .tup l, n + 1, k + 1, h, hk => by
    show (mapO (frzD k S m) l).map D.tup = _
    rw [frz_plL l n k h (by omega)]; rfl
  | .lst l, n + 1, k + 1, h, hk => by
    show (mapO (frzD k S m) l).map D.lst = _
    rw [frz_plL l n k h (by omega)]; rfl
  | .scr l, n + 1, k + 1, h, hk => by
    show (mapO (frzD k S m) l).map D.scr = _
    rw [frz_plL l n k h (by omega)]; rfl
  | .loc _, n, k, h, _ => by cases n <;> cases h
  | .glob _, n, k, h, _ => by cases n <;> cases h
theorem frz_plL {S : Sto} {m : Nat} : ∀ (l : List D) (n k : Nat), plL n l = true → n < k → mapO (frzD k S m) l = some l
  | [], n, k, h, _ => rfl
  | d :: l, n, k, h, hk => by
    have h : pl n d = true ∧ plL n l = true := by
      have : (pl n d && plL n l) = true := by rw [← h]; cases n <;> simp [plL]
      simpa using this
    show (match frzD k S m d, mapO (frzD k S m) l with
    | some x, some xs => some (x :: xs)
    | _, _ => none) = _
    rw [frz_pl d n k h.1 hk, frz_plL l n k h.2 hk]
end
theorem end_pl {n : Nat} {d : D} {S : Sto} (h : pl n d = true) (hn : n < 9) : fnEnd false 0 (.rt d S) = .ok d [] := by
  show endF 0 d S = _
  unfold endF
  cases S with
  | nil => rfl
  | cons a S =>
    rw [frz_pl d n 9 h hn]; rfl
theorem plL_cons {n : Nat} {d : D} {l : List D} : plL n (d :: l) = (pl n d && plL n l) := by cases n <;> simp [plL]
theorem plL_nil {n : Nat} : plL n [] = true := by cases n <;> simp [plL]
end Sf
end

section
set_option Elab.async false
set_option maxRecDepth 100000
set_option linter.all false
/-! Sx: facts of closed runs, by the kernel. -/
namespace Sf
open PySem PySem.Spec PyProof.Rows L2
mutual
def dEq : D → D → Bool
  | .non, .non => true
  | .bl a, .bl b => a == b
  | .int a, .int b => decide (a = b)
  | .str a, .str b => decide (a = b)
  | .tup a, .tup b => dEqs a b
  | .lst a, .lst b => dEqs a b
  | _, _ => false
def dEqs : List D → List D → Bool
  | [], [] => true
  | a :: as, b :: bs => dEq a b && dEqs as bs
  | _, _ => false
end
mutual
theorem dEq_ok : ∀ (a b : D), dEq a b = true → a = b
  | .non, b, h => by cases b <;> first | rfl | (simp [dEq] at h)
  | .bl a, b, h => by cases b <;> first | (simp [dEq] at h; rw [h]) | (simp [dEq] at h)
  | .int a, b, h => by cases b <;> first | (simp [dEq] at h; rw [h]) | (simp [dEq] at h)
  | .str a, b, h => by cases b <;> first | (simp [dEq] at h; rw [h]) | (simp [dEq] at h)
  | .tup a, b, h => by
    cases b with
    | tup b => simp only [dEq] at h; rw [dEqs_ok a b h]
    | _ => simp [dEq] at h
  | .lst a, b, h => by
    cases b with
    | lst b => simp only [dEq] at h; rw [dEqs_ok a b h]
    | _ => simp [dEq] at h
  | .und, b, h => by cases b <;> simp [dEq] at h
  | .scr _, b, h => by cases b <;> simp [dEq] at h
  | .loc _, b, h => by cases b <;> simp [dEq] at h
  | .glob _, b, h => by cases b <;> simp [dEq] at h
theorem dEqs_ok : ∀ (a b : List D), dEqs a b = true → a = b
  | [], [], _ => rfl
  | [], _ :: _, h => by simp [dEqs] at h
  | _ :: _, [], h => by simp [dEqs] at h
  | a :: as, b :: bs, h => by
    simp only [dEqs, Bool.and_eq_true] at h
    rw [dEq_ok a b h.1, dEqs_ok as bs h.2]
end
def chk (r : Out D) (d : D) : Bool := match r with
  | .ok e [] => dEq e d
  | _ => false
theorem chk_ok {r : Out D} {d : D} (h : chk r d = true) : r = .ok d [] := by
  unfold chk at h
  cases r with
  | ok e S =>
    cases S with
    | nil => rw [dEq_ok e d h]
    | cons => cases h
  | exc => cases h
  | bad => cases h
/-- a closed run -/
theorem pure_chk {F : Fn} {ds : List D} {d : D} {S : Sto} (h : (lowL 0 ds && chk (F ds []) d) = true) : pureF F ds S = .ok d S := by
  rw [Bool.and_eq_true] at h
  exact pure_eq h.1 (chk_ok h.2)
end Sf
end

section
set_option Elab.async false
set_option maxRecDepth 100000
set_option linter.all false
/-! Se1: own exceptions: raise, the caught one's class, try. -/
namespace L2
open PySem PySem.Spec PyProof.Rows
section
variable {X : Cx}
/-- X(): an own exception class, nothing handed in -/
theorem pmk_own0 {C : Addr} {bmB : List Value} {B newId initId : String} {x : Str} {p pos : Pos} (F : ExcBaseFacts B newId initId bmB) (q : PySem.W.excIn X.K C bmB newId = true) (gC : X.mg x = some (.ref C))
    (kC : PySem.W.keepIn X.K (.ref C) = true) (r : Raises X (.ref C)) (hg : Gl X x) (hdb : (x == ("__debug__" : Str)) = false := by decide) :
    PMk X (.Call (.Name x p) [] [] pos) (fun _ H Q => Q (.ref C) none H) := by
  intro pins s σ H Q I h
  refine wpAny_Call_Name_kw (ld_glob I hg gC ?_ hdb)
  refine PySem.W.callWith_K0 I.kIn kC ?_
  show wpAny _ _ (call (.ref C) []) _ _ _
  obtain ⟨bm, N, nm, qn, bs, hdct, sn, sub, ab, col, dd, k0, k1, k2, k3, k5, mN, hC, hN, hni, T⟩ := exc_obj I.kIn q
  refine wpAny_call_exc_subT F T hC hN hni (fun h' e hm => ?_) (by simp)
  exact mk_of I hm r h (I.hok.gone hm.new)
/-- l.count(y), flat items -/
def rCountF (K : PySem.W.Frag) : V → List V → Hp → VK → Prop := fun x xs H Q => ∃ (a : Addr) (ys : List V) (y : V), x = V.ref a ∧ xs = [y] ∧ SqL K H a ys ∧ flatV y = true ∧ ys.all flatV = true ∧ Q (.int (ys.countP (fun z => eqV z y) : Nat)) H
theorem countU {y : V} : ∀ {ys : List V} {us : List Value}, Vals ys us → ys.all flatV = true → us.countP (eqU y) = ys.countP fun z => eqV z y
  | [], [], .nil, _ => rfl
  | z :: ys, u :: us, .cons r t, h => by
    rw [List.all_cons, Bool.and_eq_true] at h
    rw [List.countP_cons, List.countP_cons, countU t h.2, eqU_of r h.1]
theorem mt_countF : MtR X "list.count" (rCountF X.K) := by
  intro pins s σ H x xs v us Q I rx rxs h
  obtain ⟨a, ys, y, rfl, rfl, hs, fy, fys, q⟩ := h
  cases rx
  cases rxs with
  | cons ry rt =>
    rename_i uy ut
    cases rt
    obtain ⟨its, rv, ⟨⟨cls, dd, data, sl⟩, n, ho, hc, hdn, hd⟩, hlen⟩ := I.list hs
    simp only at hc hd
    subst hc hd
    refine call_meets PySem.F.slot_list_count ⟨_, ho, rfl⟩ PySem.F.entry_list_count (PySem.F.args_list_count_2 _ _)
      (SeqAt.list_countAt a its.toArray n dd sl uy (eqU y)) ⟨ho, fun u' hu' => mem_eqAt ry fy rv fys u' (by simpa using hu'), ?_⟩
    have ec : its.toArray.toList.countP (eqU y) = ys.countP fun z => eqV z y := countU rv fys
    refine ⟨.int (ys.countP fun z => eqV z y : Nat), H, I.tok _, ⟨s.toks, ?_⟩, q⟩
    show Value.int ((its.toArray.toList.countP (eqU y) : Nat) : Int) s.toks = _
    rw [ec]
end
/-- isinstance(e, c), e an exception that is pinned -/
theorem call_isP {X : Cx} {a D : Addr} {oe : Obj} (C : ExcC X.K D) (hz : Zc (.ref D) none oe) (hf : ∃ vs, oe.data = .fields vs) (hp : (a, oe) ∈ X.pn) : CallR X (.builtin "isinstance") (rIsE X.K D a) := by
  intro pins s σ H xs us Q I r h
  obtain ⟨c, cv, b, rfl, hcv, e, q⟩ := h
  cases r with
  | cons rx rr =>
    cases rr with
    | cons rt rr =>
      cases rr
      cases rx
      have ec := hcv _ rt
      subst ec
      obtain ⟨hget, _⟩ := I.pin (a, oe) (List.mem_append.mpr (.inl hp))
      obtain ⟨vs, hv⟩ := hf
      have J : PySem.W.InstAt s.heap a oe D none := by
        obtain ⟨oc, od, oda, osl⟩ := oe
        obtain ⟨h1, h2⟩ := hz
        dsimp only at h1 h2 hv
        subst h1 h2 hv
        exact ⟨hget, rfl, rfl, trivial⟩
      exact PySem.W.kia_one (PySem.W.handS_kitx_exc C.hg C.hk C.hs C.hd C.ha C.hn C.ht C.hm) I.kIn J e (fun z => nomatch z) fun tk => ⟨.bl b, H, I.kept (t' := tk) fun _ _ z => z, rfl, q⟩
end L2
namespace Sf
open PySem PySem.Spec PyProof.Rows L2
/-- an own exception class over ValueError, its number c -/
structure EC (K : PySem.W.Frag) (mg : Str → Option Value) (xm : XM) (x : Str) (c : Nat) (C : Addr) : Prop where
  g : mg x = some (.ref C)
  xc : xm c = .ref C
  q : PySem.W.excIn K C [.type "ValueError", .type "Exception", .type "BaseException", .type "object"] "ValueError.__new__" = true
  kp : PySem.W.keepIn K (.ref C) = true
  b : PySem.W.subIn K (.ref C) (.type "BaseException") = some true
  t : PySem.W.typeIn K (.ref C) = some (.type "type")
def sRaise (c : Nat) : FS := fun _ S => .xc c S
theorem ss_raise {X : Cx} {w : Wx} {x : Str} {c : Nat} {C : Addr} {p pos pos' : Pos} (E : EC X.K X.mg w.xm x c C) (hc : X.calm = true) (tk : Takes X w.W) (hg : Gl X x := by rfl) (hdb : (x == ("__debug__" : Str)) = false := by decide) :
    SS X w (.Raise (some (.Call (.Name x p) [] [] pos)) none pos') (sRaise c) :=
  PS.imp (ps_raise hc tk (pmk_own0 PySem.F.excBase_ValueError E.q E.g E.kp (raises_own E.b E.t) hg hdb)) fun D σ H ⟨B, L, ρ, S, env, A, g⟩ => by
    have := g σ ρ H Post.refl A.rh
    rw [E.xc] at this
    exact this
/-- what the def that tells a caught exception promises -/
structure FnE (P : Program) (w : World) (K : PySem.W.Frag) (mg : Str → Option Value) (base : Heap) (k : Nat) (f : Addr) (fd : FuncData) (ps : List Str) (cls : Value) (d : D) : Prop where
  len : ps.length = 1
  run : ∀ (A : Around) (outer : List Env) (s : Shared) (H : Hp) (args : Args) (us : List Value) (Q : VK) (E : XK) (p : Addr × Obj), L2H.RoomH k A → Zc cls none p.2 → (∃ vs, p.2.data = .fields vs) → L2H.PinOk outer H s p → Env0 P w K mg base A outer s H → BindsTo s fd args (ps.zip us) → us = [.ref p.1] →
    (∃ B L ρ S, RH ⟨P, w, K⟩ B L ρ H S ∧ ∀ v ρ' H', Post L ρ H ρ' H' → RH ⟨P, w, K⟩ B L ρ' H' S → RV K B ρ' H' d v → Q v H') → codeAny (model P w) A (.call (.ref f) args) (CR (L2.CX P w) outer P w H s Q E) s
theorem fn_fin {P : Program} {w : World} {K : PySem.W.Frag} {N ps : List Str} {scope : Scope} {m : Bool} {b : FS} {xm : XM} {vs : List V} {H : Hp} {Q : VK} {E : XK} (Sc : FnScope N ps scope) (hs : spOf ⟨P, w, K⟩ xm ps.length (fn m N.length b) vs H Q E) (hm : m = false) :
    tS ⟨P, w, K⟩ (fun cls d _ H => E cls d H) xm b { nx := fun _ H' => Q .non H', rt := Q } (L2.start N vs) H := by
  subst hm
  obtain ⟨hl, B, L, ρ, S, ds, R, rv, g⟩ := hs
  have hNl : ps.length ≤ N.length := by have := congrArg List.length Sc.pre; rw [List.length_take] at this; omega
  refine ⟨B, L, ρ, S, ds ++ List.replicate (N.length - ds.length) .und, ⟨R, ⟨?_, fun i d e => ?_⟩⟩, ?_⟩
  · unfold L2.start
    rw [List.length_append, List.length_append, List.length_map, List.length_replicate, List.length_replicate, rv.length]
  · by_cases hi : i < ds.length
    · rw [List.getElem?_append_left hi] at e
      obtain ⟨v, e1, r1⟩ := rv.get e
      refine .inr ⟨v, ?_, r1⟩
      unfold L2.start
      rw [List.getElem?_append_left (by rw [List.length_map, ← rv.length]; exact hi), List.getElem?_map, e1]
      rfl
    · rw [List.getElem?_append_right (by omega)] at e
      exact .inl (List.eq_of_mem_replicate (List.mem_of_getElem? e))
  · revert g
    unfold fn
    have endF_ok : ∀ {d : D} {v : V} {ρ' : List Addr} {H' : Hp} {S' : Sto}, (match endF S.length d S' with
        | .ok d S' => ∀ v ρ' H', Post L ρ H ρ' H' → RH ⟨P, w, K⟩ B L ρ' H' S' → RV K B ρ' H' d v → Q v H'
        | .exc c S' => ∀ ρ' H', Post L ρ H ρ' H' → RH ⟨P, w, K⟩ B L ρ' H' S' → E (xm c) none H'
        | .bad => False) → Post L ρ H ρ' H' → RH ⟨P, w, K⟩ B L ρ' H' S' → RV K B ρ' H' d v → Q v H' := by
      intro d v ρ' H' S' g p R' r'
      unfold endF at g
      cases hb : Nat.beq S'.length S.length with
      | true => rw [hb] at g; exact g v ρ' H' p R' r'
      | false =>
        rw [hb] at g
        simp only [cond_false] at g
        obtain ⟨t, rfl⟩ := p.pre
        cases hf : frzD 9 S' S.length d with
        | none => rw [hf] at g; exact g.elim
        | some d' =>
          rw [hf] at g
          simp only at g
          cases hl : (S'.take S.length).all (lowO S.length) with
          | false => rw [hl] at g; exact g.elim
          | true =>
            rw [hl] at g
            rw [← R.len] at hf hl g
            exact g v ρ H' p.cut (R'.cut hl) (frz_ok R' 9 d d' v r' hf)
    cases b (ds ++ List.replicate (N.length - ds.length) .und) S with
    | nx env' S' => exact fun g σ' ρ' H' p R' re => endF_ok g p R' .non
    | bk env' S' => exact fun g => g.elim
    | ct env' S' => exact fun g => g.elim
    | bad => exact fun g => g.elim
    | xc c S' =>
      intro g σ' ρ' H' p R'
      unfold fnEnd endX at g
      simp only at g
      cases hb : Nat.beq S'.length S.length with
      | true => rw [hb] at g; exact g ρ' H' p R'
      | false =>
        rw [hb] at g
        simp only [cond_false] at g
        obtain ⟨t, rfl⟩ := p.pre
        cases hl : (S'.take S.length).all (lowO S.length) with
        | false => rw [hl] at g; exact g.elim
        | true =>
          rw [hl] at g
          rw [← R.len] at hl g
          exact g ρ H' p.cut (R'.cut hl)
    | rt d S' => exact fun g v ρ' H' p R' r' => endF_ok g p R' r'
/-- such a def, by its body's function -/
theorem fn_exc {P : Program} {w : World} {K : PySem.W.Frag} {mg : Str → Option Value} {base : Heap} {k : Nat} {f : Addr} {name qual : Str} {params : Arguments} {body : List Stmt} {scope : Scope} {dV kV doc pm cdv ct oc : Value} {an od : Option Addr}
    {osl : Array (Option Value)} {N ps : List Str} {xm : XM} {cls : Value} {d : D} {b : Addr → FS} (lk : K.lookup f = some ⟨oc, od, .func (PySem.W.fnOf name qual params body scope dV kV doc pm an cdv ct), osl⟩) (hcd : PySem.W.codeIn K cdv qual = true) (Sc : FnScope N ps scope) (hp1 : ps.length = 1)
    (hd : ∀ a, fn false N.length (b a) [.glob (.ref a)] [] = .ok d [])
    (hbody : ∀ (A : Around) (outer : List Env) (s : Shared) (H : Hp) (E : XK) (p : Addr × Obj), Zc cls none p.2 → (∃ vs, p.2.data = .fields vs) → L2H.RoomH k (A.deeper (envOfC qual scope s.heap.objs.size f cdv)) →
      SSs (L2H.cxH (L2.CX P w) P w K mg base N qual scope f cdv A outer s H E p) ⟨fun cls d _ H => E cls d H, xm⟩ body (b p.1)) :
    FnE P w K mg base (k + 1) f (PySem.W.fnOf name qual params body scope dV kV doc pm an cdv ct) ps cls d := by
  refine ⟨hp1, fun A outer s H args us Q E p hr hz hf hpin e0 hb hus hq => ?_⟩
  subst hus
  have KX : K.In s.heap := e0.mod.kin.keeps fun b o e => (e0.bs b o e).1
  have lim : s.heap.NoLimit := e0.mod.nolimit.keeps fun b o e => (e0.bs b o e).1
  have hkind : ∀ y ∈ ps.zip [Value.ref p.1], scope.names.lookup y.1 = some .local ∨ (scope.names.lookup y.1 = some .cell ∧ ((cellsFrom (s.heap.objs.size + 1) scope.names []).lookup y.1).isSome = true) := fun ⟨n, v⟩ hy => by
    rcases Sc.par n (List.of_mem_zip hy).1 with q | q
    · exact .inl q
    · exact .inr ⟨q, PySem.W.cellsFrom_some _ _ _ (.inl q)⟩
  refine codeAny_call_function hr.depth (KX _ _ lk) rfl Sc.co Sc.gen rfl (PySem.W.codeRec_of KX hcd) (hb _ _ _ _ ?_)
  refine wpAny_newFunctionEnv_cells Sc.kind hkind fun env he s1 x => ?_
  subst he
  refine ⟨lim.keeps x.toInCall.keep, codeAny_func ?_⟩
  have ht := hbody A outer s H E p hz hf (hr.deeper _)
  have r1 : Vals [V.ref p.1] [Value.ref p.1] := .cons rfl .nil
  have I : Inv (L2H.cxH (L2.CX P w) P w K mg base N qual scope f cdv A outer s H E p) [] (L2.start N [V.ref p.1]) H s1 := L2H.inv_startH Sc hpin e0 (by rw [hp1]; rfl) r1 x
  obtain ⟨B, L, ρ, S, R, q⟩ := hq
  have hs : spOf ⟨P, w, K⟩ xm ps.length (fn false N.length (b p.1)) [V.ref p.1] H Q E := by
    refine spOf_pure ⟨by rw [hp1]; rfl, B, L, ρ, S, [.glob (.ref p.1)], R, .cons (.glob (by simp)) .nil, ?_⟩
    unfold pureF
    rw [show lowL 0 [D.glob (.ref p.1)] = true from rfl, cond_true, hd]
    exact q
  refine wpAny_mono (ht.run [] s1 (L2.start N [V.ref p.1]) H _ I (fn_fin Sc hs rfl)) (fun fl s' hs => ?_) fun e s' hs => hs
  have fin : ∀ {σ' : L2.St} {H' : Hp} {v : V} {u : Value}, Inv (L2H.cxH (L2.CX P w) P w K mg base N qual scope f cdv A outer s H E p) [] σ' H' s' → RelV v u → Q v H' → CE outer P w H s Q u s' :=
    fun {σ' H' v u} J rv q => ⟨v, H', J.os, J.bare, J.base, J.hok, rv, q⟩
  cases fl with
  | ret u =>
    obtain ⟨v, σ', H', J, rv, q⟩ := hs
    exact fin J rv q
  | next =>
    obtain ⟨σ', H', J, q⟩ := hs
    exact fin (v := V.non) (u := Value.none) J rfl q
  | brk =>
    obtain ⟨_, _, _, q⟩ := hs
    exact False.elim q
  | cont =>
    obtain ⟨_, _, _, q⟩ := hs
    exact False.elim q
end Sf
end

section
set_option Elab.async false
set_option maxRecDepth 100000
set_option linter.all false
/-! Se2: try: .. except C as e: return which(e). -/
namespace Sf
open PySem PySem.Spec PyProof.Rows L2
/-- the caught exception's name -/
theorem pe_nameA {X : Cx} {a : Addr} {i : Nat} {n : Str} {np : Pos} (hi : X.N[i]? = some n) (hv : PE X (.Name n np) (tVar i)) : PE X (.Name n np) (fun σ H Q => ((i < σ.length → σ[i]? = some (some (V.ref a))) ∧ Q (.ref a) H)) :=
  ⟨fun pins s σ H Q I h => hv.run pins s σ H Q I ⟨_, h.1 (by rw [I.len]; exact (List.getElem?_eq_some_iff.mp hi).1), h.2⟩⟩
section
variable {X : Cx} {k : Nat} {f : Addr} {fd : FuncData} {ps : List Str} {cls : Value} {d : D} {a : Addr} {oe : Obj} {pn : List (Addr × Obj)} {x n : Str} {i : Nat} {q pos np : Pos}
/-- what the tale of the exception asks -/
def tTell (G : Pg) (d : D) : Hp → VK → Prop := fun H Q => ∃ B L ρ S, RH G B L ρ H S ∧ ∀ v ρ' H', Post L ρ H ρ' H' → RH G B L ρ' H' S → RV G.K B ρ' H' d v → Q v H'
theorem pe_tell (F : FnE X.prog X.w X.K X.mg X.base k f fd ps cls d) (hr : L2H.RoomH k X.A) (hz : Zc cls none oe) (hf : ∃ vs, oe.data = .fields vs) (hm : X.mg x = some (.ref f)) (hk : PySem.W.keepIn X.K (.ref f) = true) (hb : Binds X.K fd ps [])
    (hi : X.N[i]? = some n) (hv : PE (X.suite a ((a, oe) :: pn)) (.Name n np) (tVar i)) (hg : Gl (X.suite a ((a, oe) :: pn)) x) (hdb : (x == ("__debug__" : Str)) = false) :
    PE (X.suite a ((a, oe) :: pn)) (.Call (.Name x q) [.Name n np] [] pos) (fun σ H Q => (i < σ.length → σ[i]? = some (some (V.ref a))) ∧ tTell (pg X) d H Q) := by
  refine ⟨fun pins s σ H Q I h => ?_⟩
  have ha : PA (X.suite a ((a, oe) :: pn)) [.Name n np] (tCons (fun σ H Q => ((i < σ.length → σ[i]? = some (some (V.ref a))) ∧ Q (.ref a) H)) tNil) := pa_cons (pe_nameA (X := X.suite a ((a, oe) :: pn)) hi hv) pa_nil
  refine wpAny_Call_Name_kw (ld_glob I hg hm ?_ hdb)
  refine PySem.W.callWith_K (h₀ := X.base) I.ok.mod.kin hk (thn (ha.run pos pins s σ H (fun vs H1 => vs = [V.ref a] ∧ H1 = H) I ⟨h.1, rfl, rfl⟩) fun us s1 ⟨vs, H1, I1, r, q⟩ => ⟨I1.kIn, ?_⟩) rfl rfl
  obtain ⟨rfl, rfl⟩ := q
  cases r with
  | cons r1 r2 =>
    cases r2
    obtain rfl := r1
    have b := hb s1 [Value.ref a] I1.kIn (by rw [F.len]; rfl)
    rw [List.append_nil] at b
    have P1 := I1.pin (a, oe) (List.mem_append.mpr (.inl List.mem_cons_self))
    have hpin : L2H.PinOk (X.suite a ((a, oe) :: pn)).stack H1 s1 (a, oe) := ⟨P1.1, P1.2.1, fun hm => (List.mem_cons.mp (I1.stkSub a hm)).elim P1.2.2.1 P1.2.2.2.1, P1.2.2.2.2⟩
    show wpAny _ _ (call (.ref f) [Value.ref a]) _ _ _
    refine wpAny_call (codeAny_mono (F.run _ _ s1 H1 ⟨[Value.ref a], []⟩ [Value.ref a] Q (fun _ _ _ => False) (a, oe) (⟨hr.dp, hr.un⟩ : L2H.RoomH k (X.suite a ((a, oe) :: pn)).A) hz hf hpin I1.env0 b rfl h.2) fun r s' hq => ?_)
    cases r with
    | error e =>
      obtain ⟨_, _, _, _, _, _, _, _, _, _, _, _, z⟩ := hq
      exact z.elim
    | ok fl =>
      cases fl with
      | ret u => exact I1.after hq
      | next => exact False.elim hq
      | brk => exact False.elim hq
      | cont => exact False.elim hq
end
def sTry (cs : List Nat) (wh : Nat → D) (f : FS) : FS := fun env S => match f env S with
  | .xc c S' => bif cs.contains c then .rt (wh c) S' else .bad
  | r => r
theorem ss_try {X : Cx} {w : Wx} {body : List Stmt} {f : FS} {i k : Nat} {n x y : Str} {np pos pos' yp npp cp rp : Pos} {SE g : Addr} {fd : FuncData} {ps : List Str} {cs : List Nat} {wh : Nat → D} (hs : X.stack = X.env :: X.outer) (hf : X.env.frame = some X.env.locals) (hN : X.N.Nodup) (hi : X.N[i]? = some n)
    (hln : X.env.kindOf n = some .local) (hc : Names X x (.ref SE)) (tk : Takes X w.W)
    (hb : ∀ (W : WX) (pn : List (Addr × Obj)) (xe : Value → Shared → Prop), Takes (X.tr pn xe) W → PassesOwn (model X.prog X.w) X.A X.env xe → SSs (X.tr pn xe) ⟨W, w.xm⟩ body f)
    (hex : ∀ c, cs.contains c = true → PySem.W.exmOne X.K (w.xm c) (.ref SE) = some true) (hw : ∀ c, cs.contains c = true → FnE X.prog X.w X.K X.mg X.base k g fd ps (w.xm c) (wh c)) (hr : Room k X.A) (hm : X.mg y = some (.ref g)) (hk : PySem.W.keepIn X.K (.ref g) = true) (hbd : Binds X.K fd ps [])
    (hv : ∀ (a : Addr) (oe : Obj) (pn : List (Addr × Obj)), PE (X.suite a ((a, oe) :: pn)) (.Name n npp) (tVar i)) (hg : Gl X y) (hdb : (y == ("__debug__" : Str)) = false := by decide) :
    SS X w (.Try body [.ExceptHandler (some (.Name x np)) (some n) [.Return (some (.Call (.Name y yp) [.Name n npp] [] cp)) rp] pos'] [] [] pos) (sTry cs wh f) := by
  have hr' : L2H.RoomH k X.A := L2H.roomH_of hr
  -- the suite, whatever was caught
  refine PS.imp (ps_try_as (tb := fun W => tS (pg X) W w.xm f) (ts := fun a cls d => tRet fun σ H Q => (∃ c, cs.contains c = true ∧ cls = w.xm c ∧ d = none ∧ (i < σ.length → σ[i]? = some (some (V.ref a))) ∧ tTell (pg X) (wh c) H Q)) (Wout := w.W) hs hf hN hi hln hc tk hb ?_) fun D σ H ⟨B, L, ρ, S, env, A, gg⟩ => ?_
  · intro a oe cls d pn hz hfl
    refine pss_one (ps_ret ⟨fun pins s σ H Q I h => ?_⟩)
    obtain ⟨c, c7, rfl, rfl, h1, h2⟩ := h
    exact (pe_tell (hw c c7) hr' hz hfl hm hk hbd hi (hv a oe pn) hg hdb).run pins s σ H Q I ⟨h1, h2⟩
  · refine ⟨B, L, ρ, S, env, A, ?_⟩
    revert gg
    unfold sTry
    cases f env S with
    | nx e S' => exact fun g => g
    | bk e S' => exact fun g => g
    | ct e S' => exact fun g => g
    | rt e S' => exact fun g => g
    | bad => exact fun g => g
    | xc c S' =>
      intro gg
      simp only at gg
      cases hb7 : cs.contains c with
      | false => rw [hb7] at gg; exact gg.elim
      | true =>
        rw [hb7] at gg
        have c7 := hb7
        intro σ' ρ' H' p R
        refine ⟨true, hex c c7, fun _ a na => ?_, fun z => nomatch z⟩
        refine ⟨c, c7, rfl, rfl, fun hlt => ?_, B, L, ρ', S', R, fun v ρ2 H2 p2 R2 r2 => ?_⟩
        · rw [List.length_set] at hlt
          rw [List.getElem?_set_self hlt]
        · exact gg v ρ2 H2 (p.trans p2) R2 r2
end Sf
end

section
set_option Elab.async false
set_option maxRecDepth 100000
set_option linter.all false
/-! Se3: objects of the one class: fields, methods, making, len; defs that keep what they make. -/
namespace Sf
open PySem PySem.Spec PyProof.Rows L2
/-- what the class must say -/
structure Bd (K : PySem.W.Frag) (C : Addr) : Prop where
  n : BdIn K C
  c : Cls K C
  nF : NoAttr K C "form"
  nP : NoAttr K C "points"
def isFld (f : Str) : Bool := f == "form" || f == "points"
theorem Bd.no {K : PySem.W.Frag} {C : Addr} {f : Str} (b : Bd K C) (h : isFld f = true) : NoAttr K C f := by
  unfold isFld at h
  rw [Bool.or_eq_true] at h
  rcases h with h | h
  · rw [beq_iff_eq.mp h]; exact b.nF
  · rw [beq_iff_eq.mp h]; exact b.nP
theorem Bd.one {K : PySem.W.Frag} {C D : Addr} (b : Bd K C) (h : BdIn K D) : D = C := by
  have := h.symm.trans b.n
  injection this with this
  injection this with this
  injection this
section
variable {G : Pg} {B L ρ : List Addr} {H : Hp}
theorem RFs.look {f : Str} : ∀ {fs : List (Str × D)} {ents : List (Str × V)} {d : D}, RFs G B ρ H fs ents → fs.lookup f = some d → ∃ v, ents.lookup f = some v ∧ RV G.K B ρ H d v
  | _, _, _, .nil, e => by cases e
  | (g, x) :: fs, (_, y) :: ents, d, .cons h r, e => by
    rw [List.lookup_cons] at e ⊢
    cases q : f == g with
    | true => rw [q] at e; cases e; exact ⟨y, rfl, h⟩
    | false => rw [q] at e; exact r.look e
theorem RFs.lookN {f : Str} : ∀ {fs : List (Str × D)} {ents : List (Str × V)}, RFs G B ρ H fs ents → fs.lookup f = none → ents.lookup f = none
  | _, _, .nil, e => rfl
  | (g, x) :: fs, (_, y) :: ents, .cons h r, e => by
    rw [List.lookup_cons] at e ⊢
    cases q : f == g with
    | true => rw [q] at e; cases e
    | false => rw [q] at e; exact r.lookN e
theorem RFs.len : ∀ {fs : List (Str × D)} {ents : List (Str × V)}, RFs G B ρ H fs ents → ents.length = fs.length
  | _, _, .nil => rfl
  | _, _, .cons _ r => by rw [List.length_cons, List.length_cons, r.len]
def putD (f : Str) (v : D) : List (Str × D) → List (Str × D)
  | [] => [(f, v)]
  | (g, x) :: r => bif g == f then (g, v) :: r else (g, x) :: putD f v r
theorem RFs.put {f : Str} {d : D} {v : V} (h : RV G.K B ρ H d v) : ∀ {fs : List (Str × D)} {ents : List (Str × V)}, RFs G B ρ H fs ents → RFs G B ρ H (putD f d fs) (putF f v ents)
  | _, _, .nil => .cons h .nil
  | (g, x) :: fs, (_, y) :: ents, .cons r t => by
    unfold putD putF
    by_cases q : g = f
    · rw [if_pos q, beq_iff_eq.mpr q]; exact .cons h t
    · rw [if_neg q, beq_eq_false_iff_ne.mpr q]; exact .cons r (t.put h)
end
/-! ### a field read -/
def getF (f : Str) : Op1 := fun d S => match d with
  | .loc n => match S[n]? with
    | some (.ins fs) => (fs.lookup f).map fun v => (v, S)
    | _ => none
  | _ => none
def rFld (K : PySem.W.Frag) (f : Str) : V → Hp → VK → Prop := fun x H Q => ∃ a C dx fs v, x = .ref a ∧ H a = some (.ins C dx fs) ∧ Cls K C ∧ NoAttr K C f ∧ fs.lookup f = some v ∧ Q v H
theorem ok_getF {G : Pg} {C : Addr} {f : Str} (b : Bd G.K C) (hf : isFld f = true) : Ok1 G (rFld G.K f) (getF f) := by
  intro B L ρ S S' H d d' x Q R r e q
  unfold getF at e
  cases r with
  | @loc n a h =>
    simp only at e
    cases q1 : S[n]? with
    | none => rw [q1] at e; cases e
    | some ob =>
      rw [q1] at e
      cases ob with
      | ins fs =>
        simp only at e
        obtain ⟨C', dx, ents, hb, h1, h2⟩ := R.ob n a _ h q1
        obtain rfl := b.one hb
        cases q2 : fs.lookup f with
        | none => rw [q2] at e; cases e
        | some z =>
          rw [q2] at e; cases e
          obtain ⟨v, e2, r2⟩ := h2.look q2
          exact ⟨a, C', dx, ents, v, rfl, h1, b.c, b.no hf, e2, q v ρ H Post.refl R r2⟩
      | _ => cases e
  | _ => cases e
section
variable {X : Cx} {w : Wx} {C : Addr} {f m x : Str} {o e v : Expr} {es : List Expr} {fo fv : FE} {fs : FA} {pos pos' apos p : Pos} {k n : Nat} {g : Addr} {fd : FuncData} {ps : List Str} {F : Fn}
theorem se_fld (b : Bd X.K C) (ho : SE X w o fo) (hf : isFld f = true := by rfl) (hb : attributeBase o f X.env (eval o X.env) = eval o X.env := by rfl) : SE X w (.Attribute o f pos) (fOp1 (getF f) fo) :=
  PE.imp (pe_fld ho hb) fun σ H Q ⟨B, L, ρ, S, env, A, gg⟩ => go_op1 (r := rFld X.K f) (ok_getF (G := pg X) b hf) A gg
/-! ### a field written -/
def sPutF (f : Str) (fv fo : FE) : FS := fun env S => (fv env S).bindS fun y S1 => (fo env S1).bindS fun x S2 => match x with
  | .loc n => match S2[n]? with
    | some (.ins fs) => bif Nat.blt fs.length 1000 then .nx env (S2.set n (.ins (putD f y fs))) else .bad
    | _ => .bad
  | _ => .bad
theorem ss_fld (b : Bd X.K C) (ho : SE X w o fo) (hv : SE X w v fv) (hf : isFld f = true := by rfl) (hs : swapsWith v (some (.Attribute o f pos')) pos.line X.env = pure false := by rfl) : SS X w (.Assign [.Attribute o f pos'] v pos) (sPutF f fv fo) :=
  PS.imp (ps_fld ho hv hs) fun D σ H ⟨B, L, ρ, S, env, A, gg⟩ => by
    refine ⟨B, L, ρ, S, env, A, ?_⟩
    revert gg
    unfold sPutF
    cases fv env S with
    | exc c S' => exact fun g => g σ
    | bad => exact fun g => g
    | ok y S1 =>
      intro gg vy ρ1 H1 p1 R1 r1
      have g1 : GS (pg X) w.W w.xm B L ρ1 H1 _ D := GS.step gg p1
      refine ⟨B, L, ρ1, S1, env, A.step p1 R1, ?_⟩
      revert g1
      show GS (pg X) w.W w.xm B L ρ1 H1 ((fo env S1).bindS _) D → _
      cases fo env S1 with
      | exc c S' => exact fun g => g σ
      | bad => exact fun g => g
      | ok x S2 =>
        intro gg vx ρ2 H2 p2 R2 r2
        have g2 : GS (pg X) w.W w.xm B L ρ2 H2 _ D := GS.step gg p2
        cases r2 with
        | @loc n a h =>
          simp only [Out.bindS] at g2
          cases q1 : S2[n]? with
          | none => rw [q1] at g2; exact g2.elim
          | some ob =>
            rw [q1] at g2
            cases ob with
            | ins fs =>
              simp only at g2
              cases ql : Nat.blt fs.length 1000 with
              | false => rw [ql] at g2; exact g2.elim
              | true =>
                rw [ql] at g2
                obtain ⟨C', dx, ents, hb, h1, h2⟩ := R2.ob n a _ h q1
                obtain rfl := b.one hb
                have hl : a ∉ L := R2.notL h1 fun _ _ z => nomatch z
                have P3 : Post L ρ2 H2 ρ2 (upd H2 a (.ins C' dx (putF f vy ents))) := Post.wr h hl
                have R3 : RH (pg X) B L ρ2 (upd H2 a (.ins C' dx (putF f vy ents))) (S2.set n (.ins (putD f y fs))) := R2.wr h hl ⟨C', dx, _, hb, upd_same, ((h2.put (r1.mono p2)).mono P3)⟩
                have A2 := ((A.step p1 R1).step p2 R2)
                refine ⟨a, C', dx, ents, rfl, h1, b.c, b.no hf, by rw [h2.len]; exact Nat.le_of_ble_eq_true ql, ?_⟩
                exact GS.nx0 (GS.step g2 P3) R3 (A2.re.mono P3)
            | _ => exact g2.elim
        | _ => exact g2.elim
/-! ### a method -/
def isObj (m : Str) (d : D) (S : Sto) : Bool := match d with
  | .loc n => match S[n]? with
    | some (.ins fs) => (fs.lookup m).isNone
    | _ => false
  | _ => false
def fObjM (m : Str) (F : Fn) (fo : FE) (fs : FA) : FE := fun env S => (fo env S).bind fun o S1 => bif isObj m o S1 then (fs env S1).bind fun ds S2 => F (o :: ds) S2 else .bad
theorem isObj_ok {G : Pg} {B L ρ : List Addr} {H : Hp} {S : Sto} {d : D} {v : V} (b : Bd G.K C) (R : RH G B L ρ H S) (r : RV G.K B ρ H d v) (h : isObj m d S = true) : ∃ a dx ents, v = .ref a ∧ H a = some (.ins C dx ents) ∧ ents.lookup m = none := by
  unfold isObj at h
  cases r with
  | @loc n a hn =>
    simp only at h
    cases q1 : S[n]? with
    | none => rw [q1] at h; cases h
    | some ob =>
      rw [q1] at h
      cases ob with
      | ins fs =>
        simp only at h
        obtain ⟨C', dx, ents, hb, h1, h2⟩ := R.ob n a _ hn q1
        obtain rfl := b.one hb
        exact ⟨a, dx, ents, rfl, h1, h2.lookN (Option.isNone_iff_eq_none.mp h)⟩
      | _ => cases h
  | _ => cases h
/-- o.m(e, ..), what it raises wished for at the slots as they stand -/
def tMethS (C : Addr) (m : Str) (sp : Sp) (E : L2.St → XK) (ta : TE) (t : TA) : TE := fun σ H Q => ta σ H fun x H1 => ∃ a dx fs, x = .ref a ∧ H1 a = some (.ins C dx fs) ∧ fs.lookup m = none ∧ t σ H1 fun vs H2 => sp (x :: vs) H2 Q (E σ)
theorem pe_methS {CX : CXT} {sp : Sp} {E : L2.St → XK} {ta : TE} {t : TA} {pl : Sem Bool} (he : PE X o ta) (c : Cls X.K C) (hm : Meth X.K C m g)
    (F : FnOk X.prog X.w X.K X.mg X.base CX k g fd ps sp) (hr : Room k X.A) (hb : Binds X.K fd ps []) (hx : ∀ σ, PassesAt CX X σ (E σ)) (ha : PA X (e :: es) t)
    (hst : starEach (e :: es) X.env = (false, eval e X.env) :: starEach es X.env := by rfl) (hpl : (backTo pos (starEach es X.env)).any (·.1) = false := by rfl)
    (ht : eval (.Call (.Attribute o m apos) (e :: es) [] pos) X.env = (do
      let ov ← eval o X.env
      standAt apos.atName
      let (f, first) ← holding [ov] (getMethod ov m pl)
      callWith pos f first (backTo pos (starEach (e :: es) X.env)) (backToKw pos (keywordEach [] X.env))) := by rfl) :
    PE X (.Call (.Attribute o m apos) (e :: es) [] pos) (tMethS C m sp E ta t) := by
  refine ⟨fun pins s σ H Q I h => ?_⟩
  refine PySem.W.methodCall_KW (pl := pl) (thn (he.run pins s σ H _ I h) fun u s1 ⟨x, H1, I1, rx, a, dx, fs, ex, ea, l, q⟩ => ?_) ht
  subst ex
  obtain rfl : u = Value.ref a := rx
  refine getmeth_ok I1 ea c hm l ?_
  refine PySem.W.callWith_K (first := [.ref a]) (h₀ := X.base) I.ok.mod.kin hm.kp (thn (ha.run pos pins s1 σ H1 _ I1 q) fun us s2 ⟨vs, H2, I2, r, q2⟩ => ⟨I2.kIn, ?_⟩) hst hpl
  exact run_fnS (us := .ref a :: us) (vs := .ref a :: vs) F hr hb (hx σ) I2 (.cons rfl r) q2
theorem pe_methS0 {CX : CXT} {sp : Sp} {E : L2.St → XK} {ta : TE} {pl : Sem Bool} (he : PE X o ta) (c : Cls X.K C) (hm : Meth X.K C m g)
    (F : FnOk X.prog X.w X.K X.mg X.base CX k g fd ps sp) (hr : Room k X.A) (hb : Binds X.K fd ps []) (hx : ∀ σ, PassesAt CX X σ (E σ))
    (ht : eval (.Call (.Attribute o m apos) [] [] pos) X.env = (do
      let ov ← eval o X.env
      standAt apos.atName
      let (f, first) ← holding [ov] (getMethod ov m pl)
      callWith pos f first (backTo pos (starEach [] X.env)) (backToKw pos (keywordEach [] X.env))) := by rfl) :
    PE X (.Call (.Attribute o m apos) [] [] pos) (tMethS C m sp E ta tNil) := by
  refine ⟨fun pins s σ H Q I h => ?_⟩
  refine PySem.W.methodCall_KW (pl := pl) (thn (he.run pins s σ H _ I h) fun u s1 ⟨x, H1, I1, rx, a, dx, fs, ex, ea, l, q⟩ => ?_) ht
  subst ex
  obtain rfl : u = Value.ref a := rx
  refine getmeth_ok I1 ea c hm l ?_
  exact PySem.W.callWith_K0 (first := [.ref a]) I1.kIn hm.kp (run_fnS (us := [.ref a]) (vs := [.ref a]) F hr hb (hx σ) I1 (.cons rfl .nil) q)
/-- a method as the top has left it -/
structure Dm (K : PySem.W.Frag) (C : Addr) (x qual : Str) (st : Stmt) (ps : List Str) (a : Addr) (fd : FuncData) : Prop where
  F : Fun K x qual st a fd
  m : Meth K C x a
  b : Binds K fd ps []
theorem go_meth (b : Bd X.K C) {σ : L2.St} {H : Hp} {Q : VK} (hlen : ∀ env S ds S', fs env S = .ok ds S' → ds.length + 1 = n) (h : tE (pg X) w.W w.xm (fObjM m F fo fs) σ H Q) :
    tMethS C m (spOf (pg X) w.xm n F) (WE w.W) (tE (pg X) w.W w.xm fo) (tA (pg X) w.W w.xm fs) σ H Q := by
  obtain ⟨B, L, ρ, S, env, A, gg⟩ := h
  refine ⟨B, L, ρ, S, env, A, ?_⟩
  revert gg
  unfold fObjM
  cases fo env S with
  | exc c S' => exact fun g => g
  | bad => exact fun g => g
  | ok o S1 =>
    intro gg v ρ1 H1 p1 R1 r1
    have g1 : GO (pg X) w.W w.xm B L ρ1 H1 σ (rD (pg X) B) (bif isObj m o S1 then (fs env S1).bind fun ds S2 => F (o :: ds) S2 else .bad) Q := GO.step gg p1
    cases hi : isObj m o S1 with
    | false => rw [hi] at g1; exact g1.elim
    | true =>
      rw [hi] at g1
      obtain ⟨a, dx, ents, rfl, h1, h2⟩ := isObj_ok (G := pg X) b R1 r1 hi
      refine ⟨a, dx, ents, rfl, h1, h2, B, L, ρ1, S1, env, A.step p1 R1, ?_⟩
      revert g1
      show GO (pg X) w.W w.xm B L ρ1 H1 σ (rD (pg X) B) ((fs env S1).bind fun ds S2 => F (o :: ds) S2) Q → _
      cases hfs : fs env S1 with
      | exc c S' => exact fun g => g
      | bad => exact fun g => g
      | ok ds S2 =>
        intro g vs ρ' H' pp R r
        have g' : GO (pg X) w.W w.xm B L ρ' H' σ (rD (pg X) B) (F (o :: ds) S2) Q := GO.step g pp
        refine ⟨by rw [List.length_cons, ← RVs.length r]; exact hlen _ _ _ _ hfs, B, L, ρ', S2, o :: ds, R, .cons (r1.mono pp) r, ?_⟩
        revert g'
        cases F (o :: ds) S2 with
        | ok d S3 => exact fun g => g
        | exc c S3 => exact fun g => g
        | bad => exact fun g => g
theorem se_meth {qual : Str} {st : Stmt} (b : Bd X.K C) (D : Dm X.K C m qual st ps g fd) (FO : FnOk X.prog X.w X.K X.mg X.base (L2.CX X.prog X.w) k g fd ps (spOf (pg X) w.xm n F)) (tk : Takes X w.W) (hr : Room k X.A) (ho : SE X w o fo) (ha : SA X w (e :: es) fs)
    (hlen : ∀ env S ds S', fs env S = .ok ds S' → ds.length + 1 = n) {pl : Sem Bool} (hst : starEach (e :: es) X.env = (false, eval e X.env) :: starEach es X.env := by rfl) (hpl : (backTo pos (starEach es X.env)).any (·.1) = false := by rfl)
    (ht : eval (.Call (.Attribute o m apos) (e :: es) [] pos) X.env = (do
      let ov ← eval o X.env
      standAt apos.atName
      let (f, first) ← holding [ov] (getMethod ov m pl)
      callWith pos f first (backTo pos (starEach (e :: es) X.env)) (backToKw pos (keywordEach [] X.env))) := by rfl) :
    SE X w (.Call (.Attribute o m apos) (e :: es) [] pos) (fObjM m F fo fs) :=
  PE.imp (pe_methS ho b.c D.m FO hr D.b (passAt tk) ha hst hpl ht) fun σ H Q h => go_meth b hlen h
theorem se_meth0 {qual : Str} {st : Stmt} (b : Bd X.K C) (D : Dm X.K C m qual st ps g fd) (FO : FnOk X.prog X.w X.K X.mg X.base (L2.CX X.prog X.w) k g fd ps (spOf (pg X) w.xm 1 F)) (tk : Takes X w.W) (hr : Room k X.A) (ho : SE X w o fo) {pl : Sem Bool}
    (ht : eval (.Call (.Attribute o m apos) [] [] pos) X.env = (do
      let ov ← eval o X.env
      standAt apos.atName
      let (f, first) ← holding [ov] (getMethod ov m pl)
      callWith pos f first (backTo pos (starEach [] X.env)) (backToKw pos (keywordEach [] X.env))) := by rfl) :
    SE X w (.Call (.Attribute o m apos) [] [] pos) (fObjM m F fo fNil) :=
  PE.imp (pe_methS0 ho b.c D.m FO hr D.b (passAt tk) ht) fun σ H Q h => by
    obtain ⟨B, L, ρ, S, env, A, gg⟩ := go_meth b (fs := fNil) (fun env S ds S' e => by cases e; rfl) h
    refine ⟨B, L, ρ, S, env, A, gg.mono fun v H1 ⟨a, dx, ents, e1, e2, e3, B1, L1, ρ1, S1, env1, A1, g1⟩ => ⟨a, dx, ents, e1, e2, e3, ?_⟩⟩
    exact g1 [] ρ1 H1 Post.refl A1.rh .nil
/-! ### making -/
def fMake (F : Fn) (fs : FA) : FE := fun env S => (fs env S).bind fun ds S1 => (F (.loc S1.length :: ds) (S1 ++ [.ins []])).bind fun d S2 => match d with
  | .non => .ok (.loc S1.length) S2
  | _ => .bad
def tMakeS (C : Addr) (sp : Sp) (E : L2.St → XK) (t : TA) : TE := fun σ H Q => t σ H fun vs H1 => ∀ x dx, H1 x = none → H1 dx = none → dx ≠ x →
  sp (.ref x :: vs) (upd (upd H1 dx (.own x)) x (.ins C dx [])) (fun v H2 => v = .non ∧ Q (.ref x) H2) (E σ)
theorem run_makeS {CX : CXT} {sp : Sp} {E : XK} {pins : List (Addr × Obj)} {σ : L2.St} {H : Hp} {s : Shared} {Q : VK} {us : List Value} {vs : List V} (M : Mk X.K C g) (F : FnOk X.prog X.w X.K X.mg X.base CX k g fd ps sp) (hr : Room (k + 1) X.A) (hb : Binds X.K fd ps [])
    (hx : PassesAt CX X σ E) (I : Inv X pins σ H s) (r : Vals vs us)
    (h : ∀ x dx, H x = none → H dx = none → dx ≠ x → sp (.ref x :: vs) (upd (upd H dx (.own x)) x (.ins C dx [])) (fun v H2 => v = .non ∧ Q (.ref x) H2) E) :
    wpAny (model X.prog X.w) X.A (call (.ref C) us) (EP X pins σ Q) X.xe s := by
  have hq := h (s.heap.objs.size + 1) s.heap.objs.size (I.hok.fresh (Nat.le_succ _)) (I.hok.fresh (Nat.le_refl _)) (Nat.ne_of_lt (Nat.lt_succ_self _))
  have I2 := Inv.made (C := C) I
  have r2 : Vals (V.ref (s.heap.objs.size + 1) :: vs) (Value.ref (s.heap.objs.size + 1) :: us) := .cons rfl r
  have hl : (Value.ref (s.heap.objs.size + 1) :: us).length = ps.length := by
    have e := r2.length
    rw [F.len _ _ _ _ hq] at e
    exact e.symm
  have b := hb { s with heap := (s.heap.push PySem.W.emptyDict).push (PySem.W.instObj C s.heap.objs.size) } (Value.ref (s.heap.objs.size + 1) :: us) I2.kIn (by rw [List.append_nil]; exact hl)
  rw [List.append_nil] at b
  refine wpAny_call (make_map (f := g) I.kIn M.makes M.init (beq_iff_eq.mp M.fn) (codeAny_mono (F.run _ X.stack _ _ ⟨Value.ref (s.heap.objs.size + 1) :: us, []⟩ (Value.ref (s.heap.objs.size + 1) :: us) _ _ E (hr.make C us [])
    (I2.env0.make C us []) b r2 hq) fun r s' hq' => ?_))
  cases r with
  | error e => exact hx pins _ _ e s' I2 hq'
  | ok fl =>
    cases fl with
    | ret u =>
      obtain ⟨v, H', I3, rv, ev, q3⟩ := I2.after hq'
      subst ev
      exact ⟨rv, ⟨V.ref (s.heap.objs.size + 1), H', I3, rfl, q3⟩⟩
    | next => exact False.elim hq'
    | brk => exact False.elim hq'
    | cont => exact False.elim hq'
theorem se_make (b : Bd X.K C) (M : Mk X.K C g) (FO : FnOk X.prog X.w X.K X.mg X.base (L2.CX X.prog X.w) k g fd ps (spOf (pg X) w.xm n F)) (hbd : Binds X.K fd ps []) (tk : Takes X w.W) (hr : Room (k + 1) X.A) (hm : X.mg x = some (.ref C)) (ha : SA X w (e :: es) fs)
    (hlen : ∀ env S ds S', fs env S = .ok ds S' → ds.length + 1 = n) (hg : Gl X x := by rfl) (hdb : (x == ("__debug__" : Str)) = false := by decide) (he : starEach (e :: es) X.env = (false, eval e X.env) :: starEach es X.env := by rfl) (hpl : (backTo pos (starEach es X.env)).any (·.1) = false := by rfl) :
    SE X w (.Call (.Name x p) (e :: es) [] pos) (fMake F fs) := by
  refine ⟨fun pins s σ H Q I h => ?_⟩
  have h2 : tMakeS C (spOf (pg X) w.xm n F) (WE w.W) (tA (pg X) w.W w.xm fs) σ H Q := by
    obtain ⟨B, L, ρ, S, env, A, gg⟩ := h
    refine ⟨B, L, ρ, S, env, A, ?_⟩
    revert gg
    unfold fMake
    cases hfs : fs env S with
    | exc c S' => exact fun g => g
    | bad => exact fun g => g
    | ok ds S1 =>
      intro gg vs ρ1 H1 p1 R1 r1 y dx hy hdx hne
      have g1 : GO (pg X) w.W w.xm B L ρ1 H1 σ (rD (pg X) B) ((F (.loc S1.length :: ds) (S1 ++ [.ins []])).bind fun d S2 => match d with
        | .non => .ok (.loc S1.length) S2
        | _ => .bad) Q := GO.step gg p1
      have P2 : Post L ρ1 H1 ρ1 (upd H1 dx (.own y)) := Post.newV hdx
      have R2 : RH (pg X) B L ρ1 (upd H1 dx (.own y)) S1 := R1.newV hdx
      have hy2 : upd H1 dx (.own y) y = none := by rw [upd_ne (Ne.symm hne)]; exact hy
      have P3 : Post L ρ1 (upd H1 dx (.own y)) (ρ1 ++ [y]) (upd (upd H1 dx (.own y)) y (.ins C dx [])) := Post.newL hy2
      have R3 : RH (pg X) B L (ρ1 ++ [y]) (upd (upd H1 dx (.own y)) y (.ins C dx [])) (S1 ++ [.ins []]) := R2.newL hy2 ⟨C, dx, [], b.n, upd_same, .nil⟩
      have p3 := P2.trans P3
      have ey : (ρ1 ++ [y])[S1.length]? = some y := by rw [← R1.len, List.getElem?_append_right (Nat.le_refl _)]; simp
      refine ⟨by rw [List.length_cons, ← RVs.length r1]; exact hlen _ _ _ _ hfs, B, L, ρ1 ++ [y], S1 ++ [.ins []], .loc S1.length :: ds, R3, .cons (.loc ey) (RVs.mono p3 _ _ r1), ?_⟩
      have g2 := GO.step g1 p3
      revert g2
      cases F (.loc S1.length :: ds) (S1 ++ [.ins []]) with
      | bad => exact fun g => g
      | exc c S3 => exact fun g => g
      | ok d S3 =>
        intro g v ρ' H' pp R r
        cases r with
        | non => exact ⟨rfl, g (.ref y) ρ' H' pp R (.loc (pp.at ey))⟩
        | _ => exact g.elim
  refine wpAny_Call_Name_kw (ld_glob I hg hm ?_ hdb)
  refine PySem.W.callWith_K (h₀ := X.base) I.ok.mod.kin M.kp (thn (ha.run pos pins s σ H _ I h2) fun us s1 ⟨vs, H1, I1, r, q⟩ => ⟨I1.kIn, ?_⟩) he hpl
  exact run_makeS M FO hr hbd (passAt tk σ) I1 r q
/-! ### len -/
def fLenO (F : Fn) (fo : FE) : FE := fun env S => (fo env S).bind fun o S1 => bif isObj "__len__" o S1 then (F [o] S1).bind fun d S2 => match d with
  | .int i => bif decide (0 ≤ i) && decide (i < 16777216) then .ok (.int i) S2 else .bad
  | _ => .bad else .bad
theorem run_lenS {CX : CXT} {sp : Sp} {E : XK} {pins : List (Addr × Obj)} {σ : L2.St} {H : Hp} {s : Shared} {Q : VK} {a dx : Addr} {ents : List (Str × V)} (hm : Meth X.K C "__len__" g) (F : FnOk X.prog X.w X.K X.mg X.base CX k g fd ps sp) (hr : Room (k + 1) X.A) (hb : Binds X.K fd ps [])
    (hx : PassesAt CX X σ E) (I : Inv X pins σ H s) (ha : H a = some (.ins C dx ents)) (h : sp [V.ref a] H (fun v H2 => ∃ i : Int, v = .int i ∧ 0 ≤ i ∧ i < 16777216 ∧ Q (.int i) H2) E) :
    wpAny (model X.prog X.w) X.A (call (.builtin "len") [.ref a]) (EP X pins σ Q) X.xe s := by
  obtain ⟨mA, J, _⟩ := ins_get I.hok ha
  obtain ⟨od, J, _⟩ := J.look
  obtain ⟨m, hF⟩ := I.fr
  refine PySem.W.len_K hF I.ok.mod.kin J hm.at_ hm.fn ?_
  have hl := F.len _ _ _ _ h
  have b := hb s [Value.ref a] I.kIn (by rw [List.append_nil]; exact hl)
  rw [List.append_nil] at b
  have r2 : Vals [V.ref a] [Value.ref a] := .cons rfl .nil
  refine wpAny_call (codeAny_mono (F.run X.A.in1 X.stack s H ⟨[Value.ref a], []⟩ [Value.ref a] [V.ref a] _ E hr.in1 I.env0.in1 b r2 h) fun r s' hq => ?_)
  cases r with
  | error e => exact hx pins H s e s' I hq
  | ok fl =>
    cases fl with
    | ret u =>
      obtain ⟨v, H', I3, rv, i, rfl, i0, i1, q3⟩ := I.after hq
      obtain ⟨t, rfl⟩ := (show ∃ t, u = Value.int i t from rv)
      exact ⟨⟨i0, by omega⟩, .int i, H', I3.tok _, ⟨_, rfl⟩, q3⟩
    | next => exact False.elim hq
    | brk => exact False.elim hq
    | cont => exact False.elim hq
theorem se_lenO {qual : Str} {st : Stmt} (b : Bd X.K C) (D : Dm X.K C "__len__" qual st ps g fd) (FO : FnOk X.prog X.w X.K X.mg X.base (L2.CX X.prog X.w) k g fd ps (spOf (pg X) w.xm 1 F)) (tk : Takes X w.W) (hr : Room (k + 1) X.A) (ho : SE X w o fo)
    (hm : X.mg "len" = none) (hv : bootBuiltins "len" = some (.builtin "len")) (hg : Gl X "len" := by rfl) (he : starEach [o] X.env = (false, eval o X.env) :: starEach [] X.env := by rfl) (hpl : (backTo pos (starEach [] X.env)).any (·.1) = false := by rfl) : SE X w (.Call (.Name "len" p) [o] [] pos) (fLenO F fo) := by
  refine ⟨fun pins s σ H Q I h => ?_⟩
  have h2 : tE (pg X) w.W w.xm fo σ H fun x H1 => ∃ a dx ents, x = .ref a ∧ H1 a = some (.ins C dx ents) ∧ spOf (pg X) w.xm 1 F [V.ref a] H1 (fun v H2 => ∃ i : Int, v = .int i ∧ 0 ≤ i ∧ i < 16777216 ∧ Q (.int i) H2) (WE w.W σ) := by
    obtain ⟨B, L, ρ, S, env, A, gg⟩ := h
    refine ⟨B, L, ρ, S, env, A, ?_⟩
    revert gg
    unfold fLenO
    cases fo env S with
    | exc c S' => exact fun g => g
    | bad => exact fun g => g
    | ok d S1 =>
      intro gg v ρ1 H1 p1 R1 r1
      have g1 : GO (pg X) w.W w.xm B L ρ1 H1 σ (rD (pg X) B) (bif isObj "__len__" d S1 then (F [d] S1).bind fun d S2 => match d with
        | .int i => bif decide (0 ≤ i) && decide (i < 16777216) then .ok (.int i) S2 else .bad
        | _ => .bad else .bad) Q := GO.step gg p1
      cases hi : isObj "__len__" d S1 with
      | false => rw [hi] at g1; exact g1.elim
      | true =>
        rw [hi] at g1
        obtain ⟨a, dx, ents, rfl, h1, h2⟩ := isObj_ok (G := pg X) b R1 r1 hi
        refine ⟨a, dx, ents, rfl, h1, rfl, B, L, ρ1, S1, [d], R1, .cons r1 .nil, ?_⟩
        revert g1
        simp only [cond_true]
        cases F [d] S1 with
        | bad => exact fun g => g
        | exc c S3 => exact fun g => g
        | ok z S3 =>
          intro g v2 ρ' H' pp R r
          cases r with
          | int i =>
            have g3 : GO (pg X) w.W w.xm B L ρ1 H1 σ (rD (pg X) B) (bif decide (0 ≤ i) && decide (i < 16777216) then .ok (.int i) S3 else .bad) Q := g
            cases hd : decide (0 ≤ i) && decide (i < 16777216) with
            | false => rw [hd] at g3; exact g3.elim
            | true =>
              rw [hd] at g3
              rw [Bool.and_eq_true, decide_eq_true_eq, decide_eq_true_eq] at hd
              exact ⟨i, rfl, hd.1, hd.2, g3 _ ρ' H' pp R (.int i)⟩
          | _ => exact g.elim
  have ha : PA X [o] (tCons (tE (pg X) w.W w.xm fo) tNil) := pa_cons ho pa_nil he
  refine wpAny_Call_Name_kw (ld_blt I hg hm hv ?_ (by decide) (by decide))
  refine PyProof.Rows.callWith_builtin1 (thn (ha.run pos pins s σ H (fun xs H1 => ∃ a dx ents, xs = [V.ref a] ∧ H1 a = some (.ins C dx ents) ∧ spOf (pg X) w.xm 1 F [V.ref a] H1 (fun v H2 => ∃ i : Int, v = .int i ∧ 0 ≤ i ∧ i < 16777216 ∧ Q (.int i) H2) (WE w.W σ)) I ?_) fun us s1 ⟨vs, H1, I1, r1, a, dx, ents, e1, e2, e3⟩ => ?_) he hpl
  · refine tE_mono h2 fun x H1 ⟨a, dx, ents, e1, e2, e3⟩ => ?_
    subst e1
    exact ⟨a, dx, ents, rfl, e2, e3⟩
  · subst e1
    cases r1 with
    | cons r1 r2 =>
      cases r2
      obtain rfl := r1
      exact run_lenS D.m FO hr D.b (passAt tk σ) I1 e2 e3
end
/-! ### a def that keeps what it has made -/
def fnK (N : Nat) (b : FS) : Fn := fun ds S => match b (ds ++ List.replicate (N - ds.length) .und) S with
  | .rt d S' => .ok d S'
  | .nx _ S' => .ok .non S'
  | .xc c S' => .exc c S'
  | _ => .bad
section
variable {P : Program} {w : World} {K : PySem.W.Frag} {mg : Str → Option Value} {base : Heap}
theorem fn_okK {x qual : Str} {st : Stmt} {f : Addr} {fd : FuncData} {N ps : List Str} {k : Nat} {b : FS} (xm : XM) (F : Fun K x qual st f fd) (Sc : FnScope N ps (defScope st))
    (h : ∀ (cdv : Value) (A : Around) (outer : List PySem.Env) (s : Shared) (H : Hp) (E : XK) (W : WX), Room k (A.deeper (envOfC qual (defScope st) s.heap.objs.size f cdv)) →
      Takes (cxOf (L2.CX P w) P w K mg base N qual (defScope st) f cdv A outer s H E) W → SSs (cxOf (L2.CX P w) P w K mg base N qual (defScope st) f cdv A outer s H E) ⟨W, xm⟩ (defBody st) b) :
    FnOk P w K mg base (L2.CX P w) (k + 1) f fd ps (spOf ⟨P, w, K⟩ xm ps.length (fnK N.length b)) := by
  refine F.okX Sc (fun vs H Q E h => h.1) (fun cdv A outer s H vs Q E hr hs => ?_)
  have tk : Takes (cxOf (L2.CX P w) P w K mg base N qual (defScope st) f cdv A outer s H E) (fun cls d _ H => E cls d H) := takes_of rfl rfl rfl rfl
  refine ⟨_, h cdv A outer s H E _ hr tk, ?_⟩
  obtain ⟨hl, B, L, ρ, S, ds, R, rv, g⟩ := hs
  have hNl : ps.length ≤ N.length := by have := congrArg List.length Sc.pre; rw [List.length_take] at this; omega
  refine ⟨B, L, ρ, S, ds ++ List.replicate (N.length - ds.length) .und, ⟨R, ⟨?_, fun i d e => ?_⟩⟩, ?_⟩
  · unfold L2.start
    rw [List.length_append, List.length_append, List.length_map, List.length_replicate, List.length_replicate, rv.length]
  · by_cases hi : i < ds.length
    · rw [List.getElem?_append_left hi] at e
      obtain ⟨v, e1, r1⟩ := rv.get e
      refine .inr ⟨v, ?_, r1⟩
      unfold L2.start
      rw [List.getElem?_append_left (by rw [List.length_map, ← rv.length]; exact hi), List.getElem?_map, e1]
      rfl
    · rw [List.getElem?_append_right (by omega)] at e
      exact .inl (List.eq_of_mem_replicate (List.mem_of_getElem? e))
  · revert g
    unfold fnK
    cases b (ds ++ List.replicate (N.length - ds.length) .und) S with
    | nx env' S' => exact fun g σ' ρ' H' p R' re => g .non ρ' H' p R' .non
    | bk env' S' => exact fun g => g.elim
    | ct env' S' => exact fun g => g.elim
    | bad => exact fun g => g.elim
    | xc c S' => exact fun g σ' ρ' H' p R' => g ρ' H' p R'
    | rt d S' => exact fun g v ρ' H' p R' r' => g v ρ' H' p R' r'
end
end Sf
end

section
set_option Elab.async false
set_option maxRecDepth 100000
set_option linter.all false
/-! Se4: the def that tells which exception was caught. -/
namespace Sf
open PySem PySem.Spec PyProof.Rows L2
def bolsD : List D → Option (List Bool)
  | [] => some []
  | .bl b :: r => match bolsD r with
    | some bs => some (b :: bs)
    | none => none
  | _ => none
theorem bolsD_ok {K : PySem.W.Frag} {B ρ : List Addr} {H : Hp} : ∀ {ds : List D} {vs : List V} {bs : List Bool}, RVs K B ρ H ds vs → bolsD ds = some bs → vs = bs.map V.bl
  | _, _, _, .nil, e => by cases e; rfl
  | .bl b :: ds, _, _, .cons (.bl _) t, e => by
    unfold bolsD at e
    cases q : bolsD ds with
    | none => rw [q] at e; cases e
    | some cs => rw [q] at e; cases e; rw [bolsD_ok t q]; rfl
  | .und :: _, _, _, .cons r _, e => by cases e
  | .non :: _, _, _, .cons r _, e => by cases e
  | .int _ :: _, _, _, .cons r _, e => by cases e
  | .str _ :: _, _, _, .cons r _, e => by cases e
  | .tup _ :: _, _, _, .cons r _, e => by cases e
  | .lst _ :: _, _, _, .cons r _, e => by cases e
  | .scr _ :: _, _, _, .cons r _, e => by cases e
  | .loc _ :: _, _, _, .cons r _, e => by cases e
  | .glob _ :: _, _, _, .cons r _, e => by cases e
def mCountB : OpM := fun o xs S => match lsR o S, xs with
  | some l, [.bl k] => match bolsD l with
    | some bs => some (.int ((bs.count k : Nat) : Int), S)
    | none => none
  | _, _ => none
def mIndexB : OpM := fun o xs S => match lsR o S, xs with
  | some l, [.bl k] => match bolsD l with
    | some bs => bif bs.contains k then some (.int ((bs.idxOf k : Nat) : Int), S) else none
    | none => none
  | _, _ => none
theorem flat_bols (bs : List Bool) : (bs.map V.bl).all flatV = true := by
  rw [List.all_eq_true]
  intro x hx
  obtain ⟨b, _, rfl⟩ := List.mem_map.mp hx
  rfl
theorem countP_bols (k : Bool) (bs : List Bool) : (bs.map V.bl).countP (fun z => eqV z (.bl k)) = bs.count k := by
  rw [List.countP_map]; rfl
section
variable {X : Cx} {w : Wx} {o e : Expr} {fo : FE} {fs : FA} {apos cpos : Pos}
theorem ok_countB : OkM (pg X) (rCountF X.K) mCountB := by
  intro B L ρ S S' H o ds d' x xs Q R ro rs e q
  unfold mCountB at e
  cases e1 : lsR o S with
  | none => rw [e1] at e; cases e
  | some l =>
    rw [e1] at e
    match ds, e with
    | [.bl k], e =>
      obtain ⟨y, rfl, r⟩ := rvs1 rs
      cases r
      simp only at e
      cases e2 : bolsD l with
      | none => rw [e2] at e; cases e
      | some bs =>
        rw [e2] at e; cases e
        obtain ⟨a, vs, rfl, h1, h2⟩ := lsR_ok (G := pg X) R ro e1
        obtain rfl := bolsD_ok h2 e2
        refine ⟨a, bs.map V.bl, .bl k, rfl, rfl, h1, rfl, flat_bols bs, ?_⟩
        rw [countP_bols]
        exact here (G := pg X) q R (.int _)
theorem ok_indexB : OkM (pg X) (rIndex X.K) mIndexB := by
  intro B L ρ S S' H o ds d' x xs Q R ro rs e q
  unfold mIndexB at e
  cases e1 : lsR o S with
  | none => rw [e1] at e; cases e
  | some l =>
    rw [e1] at e
    match ds, e with
    | [.bl k], e =>
      obtain ⟨y, rfl, r⟩ := rvs1 rs
      cases r
      simp only at e
      cases e2 : bolsD l with
      | none => rw [e2] at e; cases e
      | some bs =>
        rw [e2] at e
        simp only at e
        cases hc : bs.contains k with
        | false => rw [hc] at e; cases e
        | true =>
          rw [hc] at e; cases e
          obtain ⟨a, vs, rfl, h1, h2⟩ := lsR_ok (G := pg X) R ro e1
          obtain rfl := bolsD_ok h2 e2
          have hm : k ∈ bs := List.contains_iff_mem.mp hc
          have hlt : bs.idxOf k < bs.length := List.idxOf_lt_length_of_mem hm
          refine ⟨a, bs.map V.bl, .bl k, bs.idxOf k, .bl k, rfl, rfl, h1, rfl, flat_bols bs, ?_, ?_, fun m z' hmlt hz => ?_, here (G := pg X) q R (.int _)⟩
          · rw [List.getElem?_map, List.getElem?_eq_getElem hlt, List.getElem_idxOf]; rfl
          · show (k == k) = true
            exact beq_self_eq_true k
          · rw [List.getElem?_map] at hz
            cases hb : bs[m]? with
            | none => rw [hb] at hz; cases hz
            | some b =>
              rw [hb] at hz; cases hz
              show (b == k) = false
              obtain ⟨hml, rfl⟩ := List.getElem?_eq_some_iff.mp hb
              exact List.not_of_lt_findIdx (p := (· == k)) hmlt
theorem se_countB (ho : SE X w o fo) (ha : SA X w [e] fs) (hbase : attributeBase o "count" X.env (eval o X.env) = eval o X.env := by rfl)
    (hfew : ((backTo cpos (starEach [e] X.env)).all (fun x => !x.1) && (backToKw cpos (keywordEach [] X.env)).all (fun x => x.1.isSome) && decide (([e] : List Expr).length + ([] : List Keyword).length + (if ([] : List Keyword).isEmpty then 0 else 1) < 30)) = true := by rfl)
    (hline : (apos.endLine == cpos.line) = true := by rfl) (hs : starEach [e] X.env = (false, eval e X.env) :: starEach [] X.env := by rfl) (hplain : (backTo cpos (starEach [] X.env)).any (·.1) = false := by rfl) :
    SE X w (.Call (.Attribute o "count" apos) [e] [] cpos) (fMethL mCountB fo fs) :=
  PE.imp (pe_bm PySem.F.plainAttrs_list PySem.F.slot_list_count PySem.F.type_list_count mt_countF ho ha hbase hfew hline hs hplain) fun σ H Q h => go_methL ok_countB h
theorem se_indexB (ho : SE X w o fo) (ha : SA X w [e] fs) (hbase : attributeBase o "index" X.env (eval o X.env) = eval o X.env := by rfl)
    (hfew : ((backTo cpos (starEach [e] X.env)).all (fun x => !x.1) && (backToKw cpos (keywordEach [] X.env)).all (fun x => x.1.isSome) && decide (([e] : List Expr).length + ([] : List Keyword).length + (if ([] : List Keyword).isEmpty then 0 else 1) < 30)) = true := by rfl)
    (hline : (apos.endLine == cpos.line) = true := by rfl) (hs : starEach [e] X.env = (false, eval e X.env) :: starEach [] X.env := by rfl) (hplain : (backTo cpos (starEach [] X.env)).any (·.1) = false := by rfl) :
    SE X w (.Call (.Attribute o "index" apos) [e] [] cpos) (fMethL mIndexB fo fs) :=
  PE.imp (pe_bm PySem.F.plainAttrs_list PySem.F.slot_list_index PySem.F.type_list_index mt_index ho ha hbase hfew hline hs hplain) fun σ H Q h => go_methL ok_indexB h
end
/-! ### ints alone, without room -/
def oNeI : Op2 := fun x y S => match x, y with
  | .int i, .int j => some (.bl (!decide (i = j)), S)
  | _, _ => none
theorem ok_neI {X : Cx} : Ok2 (pg X) rNe oNeI := by
  intro B L ρ S S' H d1 d2 d' x y Q R r1 r2 e q
  cases r1 with
  | int i => cases r2 with
    | int j =>
      cases e
      refine ⟨rfl, ?_⟩
      have : decide (V.int i = V.int j) = decide (i = j) := decide_eq_decide.mpr ⟨fun z => by cases z; rfl, fun z => by rw [z]⟩
      rw [this]
      exact here (G := pg X) q R (.bl _)
    | _ => cases e
  | _ => cases r2 <;> cases e
/-! ### isinstance of the caught one -/
def fIsX (a : Addr) (i : Nat) (b : Bool) : FE := fun env S => match env[i]? with
  | some (.glob (.ref a')) => bif a' == a then .ok (.bl b) S else .bad
  | _ => .bad
section
variable {X : Cx} {w : Wx} {a D : Addr} {oe : Obj} {i : Nat} {n y : Str} {b : Bool} {np p yp pos : Pos}
theorem se_isX {c : V} {cv : Value} (C : ExcC X.K D) (hz : Zc (.ref D) none oe) (hf : ∃ vs, oe.data = .fields vs) (hp : (a, oe) ∈ X.pn) (hv : PE X (.Name n np) (tVar i)) (hc : PE X (.Name y yp) (tC c)) (hcv : ∀ u, RelV c u → u = cv) (hk : PySem.W.kitOne X.K (.ref D) cv = some b)
    (hm : X.mg "isinstance" = none) (hb : bootBuiltins "isinstance" = some (.builtin "isinstance")) (hg : Gl X "isinstance" := by rfl) :
    SE X w (.Call (.Name "isinstance" p) [.Name n np, .Name y yp] [] pos) (fIsX a i b) := by
  refine PE.imp (pe_callB (call_isP C hz hf hp) hg hm hb (pa_cons hv (pa_cons hc pa_nil)) (by decide) (by decide)) fun σ H Q ⟨B, L, ρ, S, env, A, g⟩ => ?_
  unfold fIsX at g
  cases q : env[i]? with
  | none => rw [q] at g; exact g.elim
  | some d =>
    rw [q] at g
    cases d with
    | glob v =>
      cases v with
      | ref a' =>
        simp only at g
        cases ha : a' == a with
        | false => rw [ha] at g; exact g.elim
        | true =>
          rw [ha] at g
          obtain rfl := beq_iff_eq.mp ha
          rcases A.re.at' i _ q with z | ⟨v, e1, r⟩
          · cases z
          · cases r
            exact ⟨.ref a', e1, c, cv, b, rfl, hcv, hk, GO.ok0 g A (.bl _)⟩
      | _ => exact g.elim
    | _ => exact g.elim
end
/-- the own exceptions' names, by their number -/
def xnm : List Str := ["InvalidForm", "InvalidRow", "InvalidSide", "InvalidChance", "Over", "NothingToUndo", "InvalidFormat"]
def xmOf (K : PySem.W.Frag) : XM := fun c => match PySem.W.nsIn K mainGlobals (xnm.getD c "") with
  | some (some v) => v
  | _ => .none
/-- what _law_which says of the c-th -/
def whD (c : Nat) : D := .tup [.str "raised", .int c]
/-- the classes as the caught one of class c sees them -/
structure XF (K : PySem.W.Frag) (mg : Str → Option Value) (c : Nat) (C : Addr) : Prop where
  ec : ExcC K C
  is : ∀ j, j < 7 → ∃ D, mg (xnm.getD j "") = some (.ref D) ∧ PySem.W.kitOne K (.ref C) (.ref D) = some (c == j)
  ve : PySem.W.kitOne K (.ref C) (.type "ValueError") = some true
end Sf
namespace Sf
open PySem PySem.Spec PyProof.Rows L2
/-- _law_which: the c-th was caught -/
def b_which (c : Nat) (a : Addr) : FS := sSeq (sAsg 1 (fLst true (fCons (fIsX a 0 (c == 0)) (fCons (fIsX a 0 (c == 1)) (fCons (fIsX a 0 (c == 2)) (fNil))))))
  (sSeq (sExpr (fMethL mExtend (fVar 1) (fCons (fLst false (fCons (fIsX a 0 (c == 3)) (fCons (fIsX a 0 (c == 4)) (fNil)))) (fNil))))
  (sSeq (sExpr (fMethL mExtend (fVar 1) (fCons (fLst false (fCons (fIsX a 0 (c == 5)) (fNil))) (fNil))))
  (sSeq (sExpr (fMethL mAppend (fVar 1) (fCons (fIsX a 0 (c == 6)) (fNil))))
  (sSeq (sIf (Sf.tOr (tVal (fOp2 oNeI (fMethL mCountB (fVar 1) (fCons (fCon (.bl true)) (fNil))) (fCon (.int 1)))) (tNot (tVal (fIsX a 0 true)))) (sRet (fTup (fCons (fCon (.str "raised")) (fCons (fOp1 oNeg (fCon (.int 1))) (fNil))))) (sSkip))
  (sRet (fTup (fCons (fCon (.str "raised")) (fCons (fMethL mIndexB (fVar 1) (fCons (fCon (.bl true)) (fNil))) (fNil)))))))))
theorem fIsX_at {a : Addr} {b : Bool} {env : En} {S : Sto} : fIsX a 0 b (.glob (.ref a) :: env) S = .ok (.bl b) S := by
  unfold fIsX
  simp
theorem sSeq_nx {f g : FS} {env e' : En} {S S' : Sto} (h : f env S = .nx e' S') : sSeq f g env S = g e' S' := by
  unfold sSeq
  rw [h]
  rfl
theorem b_which_run (c : Nat) (hc : c < 7) (a : Addr) : fn false 2 (b_which c a) [.glob (.ref a)] [] = .ok (whD c) [] := by
  have hI : ∀ (b : Bool) (d : D) (S : Sto), fIsX a 0 b [.glob (.ref a), d] S = .ok (.bl b) S := fun b d S => fIsX_at
  have s1 : ∀ c0 c1 c2 : Bool, sAsg 1 (fLst true (fCons (fIsX a 0 c0) (fCons (fIsX a 0 c1) (fCons (fIsX a 0 c2) (fNil))))) [.glob (.ref a), .und] [] = .nx [.glob (.ref a), .loc 0] [.lst [.bl c0, .bl c1, .bl c2]] := by
    intro c0 c1 c2
    unfold sAsg fLst
    simp only [fCons, hI, Out.bind]
    rfl
  have s2 : ∀ (c3 c4 : Bool) (l : List D), fit l.length = true → fit (l.length + 2) = true → sExpr (fMethL mExtend (fVar 1) (fCons (fLst false (fCons (fIsX a 0 c3) (fCons (fIsX a 0 c4) (fNil)))) (fNil))) [.glob (.ref a), .loc 0] [.lst l] = .nx [.glob (.ref a), .loc 0] [.lst (l ++ [.bl c3, .bl c4])] := by
    intro c3 c4 l h1 h2
    have e : fCons (fLst false (fCons (fIsX a 0 c3) (fCons (fIsX a 0 c4) (fNil)))) (fNil) [.glob (.ref a), .loc 0] [.lst l] = .ok [.lst [.bl c3, .bl c4]] [.lst l] := by
      simp only [fCons, fLst, hI, Out.bind]
      rfl
    unfold sExpr fMethL
    show Out.bindS ((bif true then (fCons (fLst false (fCons (fIsX a 0 c3) (fCons (fIsX a 0 c4) (fNil)))) (fNil) [.glob (.ref a), .loc 0] [.lst l]).bind fun xs S2 => outO (mExtend (.loc 0) xs S2) else .bad)) _ = _
    rw [e]
    show Out.bindS (outO (bif fit (l.length + 2) then some (D.non, [Ob.lst (l ++ [.bl c3, .bl c4])]) else none)) _ = _
    rw [h2]
    rfl
  have s3 : ∀ (c5 : Bool) (l : List D), fit (l.length + 1) = true → sExpr (fMethL mExtend (fVar 1) (fCons (fLst false (fCons (fIsX a 0 c5) (fNil))) (fNil))) [.glob (.ref a), .loc 0] [.lst l] = .nx [.glob (.ref a), .loc 0] [.lst (l ++ [.bl c5])] := by
    intro c5 l h2
    have e : fCons (fLst false (fCons (fIsX a 0 c5) (fNil))) (fNil) [.glob (.ref a), .loc 0] [.lst l] = .ok [.lst [.bl c5]] [.lst l] := by
      simp only [fCons, fLst, hI, Out.bind]
      rfl
    unfold sExpr fMethL
    show Out.bindS ((bif true then (fCons (fLst false (fCons (fIsX a 0 c5) (fNil))) (fNil) [.glob (.ref a), .loc 0] [.lst l]).bind fun xs S2 => outO (mExtend (.loc 0) xs S2) else .bad)) _ = _
    rw [e]
    show Out.bindS (outO (bif fit (l.length + 1) then some (D.non, [Ob.lst (l ++ [.bl c5])]) else none)) _ = _
    rw [h2]
    rfl
  have s4 : ∀ (c6 : Bool) (l : List D), fitS l.length = true → sExpr (fMethL mAppend (fVar 1) (fCons (fIsX a 0 c6) (fNil))) [.glob (.ref a), .loc 0] [.lst l] = .nx [.glob (.ref a), .loc 0] [.lst (l ++ [.bl c6])] := by
    intro c6 l h2
    have e : fCons (fIsX a 0 c6) (fNil) [.glob (.ref a), .loc 0] [.lst l] = .ok [.bl c6] [.lst l] := by
      unfold fCons
      rw [hI]
      rfl
    unfold sExpr fMethL
    show Out.bindS ((bif true then (fCons (fIsX a 0 c6) (fNil) [.glob (.ref a), .loc 0] [.lst l]).bind fun xs S2 => outO (mAppend (.loc 0) xs S2) else .bad)) _ = _
    rw [e]
    show Out.bindS (outO (bif fitS l.length then some (D.non, [Ob.lst (l ++ [.bl c6])]) else none)) _ = _
    rw [h2]
    rfl
  have s5 : ∀ (l : List D), mCountB (.loc 0) [.bl true] [.lst l] = some (.int 1, [.lst l]) → sIf (Sf.tOr (tVal (fOp2 oNeI (fMethL mCountB (fVar 1) (fCons (fCon (.bl true)) (fNil))) (fCon (.int 1)))) (tNot (tVal (fIsX a 0 true)))) (sRet (fTup (fCons (fCon (.str "raised")) (fCons (fOp1 oNeg (fCon (.int 1))) (fNil))))) (sSkip) [.glob (.ref a), .loc 0] [.lst l] = .nx [.glob (.ref a), .loc 0] [.lst l] := by
    intro l h
    have e : fMethL mCountB (fVar 1) (fCons (fCon (.bl true)) (fNil)) [.glob (.ref a), .loc 0] [.lst l] = .ok (.int 1) [.lst l] := by
      unfold fMethL
      show (bif true then outO (mCountB (.loc 0) [.bl true] [.lst l]) else .bad) = _
      rw [h]
      rfl
    unfold sIf Sf.tOr tVal fOp2
    rw [e]
    simp only [Out.bind, fCon, oNeI, outO]
    unfold tNot
    simp only [decide_true, Bool.not_true, cond_false]
    rw [hI]
    rfl
  unfold fn b_which
  have e1 : ([D.glob (.ref a)] ++ List.replicate (2 - [D.glob (.ref a)].length) D.und) = [.glob (.ref a), .und] := rfl
  rw [e1, sSeq_nx (s1 _ _ _), sSeq_nx (s2 _ _ _ rfl rfl), sSeq_nx (s3 _ _ rfl), sSeq_nx (s4 _ _ rfl)]
  match c, hc with
  | 0, _ => rw [sSeq_nx (s5 _ rfl)]; rfl
  | 1, _ => rw [sSeq_nx (s5 _ rfl)]; rfl
  | 2, _ => rw [sSeq_nx (s5 _ rfl)]; rfl
  | 3, _ => rw [sSeq_nx (s5 _ rfl)]; rfl
  | 4, _ => rw [sSeq_nx (s5 _ rfl)]; rfl
  | 5, _ => rw [sSeq_nx (s5 _ rfl)]; rfl
  | 6, _ => rw [sSeq_nx (s5 _ rfl)]; rfl
/-- the def that tells, and the class that catches all -/
structure Whs (P : Program) (w : World) (K : PySem.W.Frag) (mg : Str → Option Value) (base : Heap) (xm : XM) (cs : List Nat) (k : Nat) (g : Addr) (fd : FuncData) (SE : Addr) : Prop where
  hw : ∀ c, cs.contains c = true → FnE P w K mg base k g fd ["_law_error"] (xm c) (whD c)
  m : mg "_law_which" = some (.ref g)
  kp : PySem.W.keepIn K (.ref g) = true
  b : Binds K fd ["_law_error"] []
  gS : mg "ScoreError" = some (.ref SE)
  hex : ∀ c, cs.contains c = true → PySem.W.exmOne K (xm c) (.ref SE) = some true
end Sf
end

section
set_option Elab.async false
set_option maxRecDepth 100000
set_option linter.all false
/-! Se5: the small words that the generated derivations use. -/
namespace Sf
open PySem PySem.Spec PyProof.Rows L2
theorem bt_ValueError : bootBuiltins "ValueError" = some (.type "ValueError") := by decide +kernel
theorem lenS_of {fs : FA} {n : Nat} (h : LenA fs n) : ∀ env S ds S', fs env S = .ok ds S' → ds.length + 1 = n + 1 := fun env S ds S' e => by rw [h env S ds S' e]
structure Bdx (K : PySem.W.Frag) (mg : Str → Option Value) (C : Addr) : Prop where
  b : Bd K C
  g : mg "Board" = some (.ref C)
structure Dk (K : PySem.W.Frag) (C : Addr) (qual : Str) (st : Stmt) (ps : List Str) (a : Addr) (fd : FuncData) : Prop where
  F : Fun K "__init__" qual st a fd
  md : Mk K C a
  b : Binds K fd ps []
theorem xm_of {K : PySem.W.Frag} {c : Nat} {v : Value} (h : PySem.W.nsIn K mainGlobals (xnm.getD c "") = some (some v)) : xmOf K c = v := by
  unfold xmOf
  rw [h]
theorem kit_sub {K : PySem.W.Frag} {C D : Addr} {b : Bool} (hd : PySem.W.hasDictIn K D = true) (ht : PySem.W.typeIn K (.ref D) = some (.type "type")) (hcc : PySem.W.subIn K (.ref C) (.ref C) = some true) (hs : PySem.W.subIn K (.ref C) (.ref D) = some b) :
    PySem.W.kitOne K (.ref C) (.ref D) = some b := by
  unfold PySem.W.kitOne
  by_cases h : (Value.ref C == Value.ref D) = true
  · rw [if_pos h]
    have e : C = D := Value.ref.inj (beq_iff_eq.mp h)
    subst e
    rw [hcc] at hs
    exact hs
  · rw [if_neg h]
    obtain ⟨cd, hc, _⟩ := PySem.W.any_some hd
    have e2 : ((PySem.W.clsIn K D).isSome && PySem.W.typeIn K (.ref D) == some (.type "type")) = true := by rw [hc, ht] <;> rfl
    show (if ((PySem.W.clsIn K D).isSome && PySem.W.typeIn K (.ref D) == some (.type "type")) = true then PySem.W.subIn K (.ref C) (.ref D) else none) = some b
    rw [if_pos e2]
    exact hs
theorem kit_ve {K : PySem.W.Frag} {C : Addr} (hs : PySem.W.subIn K (.ref C) (.type "ValueError") = some true) : PySem.W.kitOne K (.ref C) (.type "ValueError") = some true := by
  unfold PySem.W.kitOne
  rw [if_neg (fun h => by cases beq_iff_eq.mp h)]
  show (if PySem.W.kitMeta "ValueError" = true then PySem.W.subIn K (.ref C) (.type "ValueError") else none) = some true
  rw [if_pos (by decide +kernel)]
  exact hs
end Sf
end

section
set_option Elab.async false
set_option maxRecDepth 100000
set_option linter.all false
/-! Se6: a def picked out of a list display and called; a def that gets places only where it must; list(range(n)). -/
namespace Sf
open PySem PySem.Spec PyProof.Rows L2
section
variable {X : Cx} {w : Wx} {n : Nat}
/-- defs by their names -/
inductive FnTab (X : Cx) (w : Wx) (n : Nat) : List Expr → List Addr → List Fn → Prop
  | nil : FnTab X w n [] [] []
  | cons {x : Str} {p : Pos} {es : List Expr} {f : Addr} {as : List Addr} {F : Fn} {Fs : List Fn} {k : Nat} {fd : FuncData} {ps : List Str} (hg : Gl X x) (hdb : (x == ("__debug__" : Str)) = false) (hm : X.mg x = some (.ref f)) (kp : PySem.W.keepIn X.K (.ref f) = true) (b : Binds X.K fd ps [])
      (FO : FnOk X.prog X.w X.K X.mg X.base (L2.CX X.prog X.w) k f fd ps (spOf (pg X) w.xm n F)) (hr : Room k X.A) (t : FnTab X w n es as Fs) : FnTab X w n (.Name x p :: es) (f :: as) (F :: Fs)
def fAddrs : List Addr → FA
  | [] => fNil
  | a :: as => fCons (fCon (.glob (.ref a))) (fAddrs as)
theorem fAddrs_run {env : En} {S : Sto} : ∀ as : List Addr, fAddrs as env S = .ok (as.map fun a => .glob (.ref a)) S
  | [] => rfl
  | a :: as => by
    show ((fAddrs as env S).bind fun xs S2 => .ok (.glob (.ref a) :: xs) S2) = _
    rw [fAddrs_run as]; rfl
theorem FnTab.sa {es : List Expr} {as : List Addr} {Fs : List Fn} (T : FnTab X w n es as Fs) : SA X w es (fAddrs as) := by
  induction T with
  | nil => exact sa_nil
  | cons hg hdb hm kp b FO hr t ih => exact sa_cons (se_con (pe_glob (v := .ref _) hg hm rfl hdb) fun _ _ _ => .glob (by intro z; cases z)) ih
theorem FnTab.get {es : List Expr} {as : List Addr} {Fs : List Fn} (T : FnTab X w n es as Fs) : ∀ {i : Nat} {F : Fn}, Fs[i]? = some F → ∃ a k fd ps, as[i]? = some a ∧ PySem.W.keepIn X.K (.ref a) = true ∧ Binds X.K fd ps [] ∧ FnOk X.prog X.w X.K X.mg X.base (L2.CX X.prog X.w) k a fd ps (spOf (pg X) w.xm n F) ∧ Room k X.A := by
  induction T with
  | nil => intro i F h; simp at h
  | cons hg hdb hm kp b FO hr t ih =>
    intro i F h
    cases i with
    | zero => simp at h; subst h; exact ⟨_, _, _, _, rfl, kp, b, FO, hr⟩
    | succ i =>
      obtain ⟨a, k, fd, ps, h1, h2⟩ := ih (by simpa using h)
      exact ⟨a, k, fd, ps, by simpa using h1, h2⟩
/-- [f, g, ..][i](..) -/
def fPickC (Fs : List Fn) (fi : FE) (fs : FA) : FE := fun env S => (fi env S).bind fun ix S1 => match ix with
  | .int k => bif decide (0 ≤ k) then (match Fs[k.toNat]? with
    | some F => (fs env S1).bind fun ds S2 => F ds S2
    | none => .bad) else .bad
  | _ => .bad
theorem se_pickC {es : List Expr} {as : List Addr} {Fs : List Fn} {ie e : Expr} {es2 : List Expr} {fi : FE} {fs : FA} {p1 p2 pos : Pos} (T : FnTab X w n es as Fs) (hfit : fit as.length = true) (tk : Takes X w.W) (hi : SE X w ie fi) (ha : SA X w (e :: es2) fs)
    (hlen : ∀ env S ds S', fs env S = .ok ds S' → ds.length = n) (hpx : PlainIx ie := by intro _ _; rfl)
    (ht : eval (.Call (.Subscript (.List es p1) ie p2) (e :: es2) [] pos) X.env = (do callWith pos (← eval (.Subscript (.List es p1) ie p2) X.env) [] (backTo pos (starEach (e :: es2) X.env)) (backToKw pos (keywordEach [] X.env))) := by rfl)
    (he : starEach (e :: es2) X.env = (false, eval e X.env) :: starEach es2 X.env := by rfl) (hpl : (backTo pos (starEach es2 X.env)).any (·.1) = false := by rfl) :
    SE X w (.Call (.Subscript (.List es p1) ie p2) (e :: es2) [] pos) (fPickC Fs fi fs) := by
  have hf : SE X w (.Subscript (.List es p1) ie p2) (fOp2 oIx (fLst false (fAddrs as)) fi) := se_ix ixr ok_ix (se_lst (m := false) T.sa) hi hpx
  refine ⟨fun pins s σ H Q I h => ?_⟩
  have h2 : tE (pg X) w.W w.xm (fOp2 oIx (fLst false (fAddrs as)) fi) σ H fun y H1 => ∃ a k fd ps F, y = V.ref a ∧ PySem.W.keepIn X.K (.ref a) = true ∧ Binds X.K fd ps [] ∧ FnOk X.prog X.w X.K X.mg X.base (L2.CX X.prog X.w) k a fd ps (spOf (pg X) w.xm n F) ∧ Room k X.A ∧
      tA (pg X) w.W w.xm fs σ H1 fun vs H2 => spOf (pg X) w.xm n F vs H2 Q (WE w.W σ) := by
    obtain ⟨B, L, ρ, S, env, A, gg⟩ := h
    refine ⟨B, L, ρ, S, env, A, ?_⟩
    have e1 : fOp2 oIx (fLst false (fAddrs as)) fi env S = (fi env S).bind fun ix S1 => outO (oIx (.lst (as.map fun a => .glob (.ref a))) ix S1) := by
      show (((fAddrs as env S).bind fun xs S1 => outO (mkL false xs S1)).bind fun x S1 => (fi env S1).bind fun y S2 => outO (oIx x y S2)) = _
      rw [fAddrs_run]
      show ((outO (mkL false (as.map fun a => .glob (.ref a)) S)).bind fun x S1 => (fi env S1).bind fun y S2 => outO (oIx x y S2)) = _
      unfold mkL
      rw [List.length_map, hfit]
      rfl
    rw [e1]
    revert gg
    unfold fPickC
    cases fi env S with
    | exc c S' => exact fun g => g
    | bad => exact fun g => g
    | ok ix S1 =>
      intro gg
      cases ix with
      | int k =>
        have gg : GO (pg X) w.W w.xm B L ρ H σ (rD (pg X) B) (bif decide (0 ≤ k) then (match Fs[k.toNat]? with
          | some F => (fs env S1).bind fun ds S2 => F ds S2
          | none => .bad) else .bad) Q := gg
        cases hk : decide (0 ≤ k) with
        | false => rw [hk] at gg; exact gg.elim
        | true =>
          rw [hk] at gg
          cases hF : Fs[k.toNat]? with
          | none => rw [hF] at gg; exact gg.elim
          | some F =>
            rw [hF] at gg
            obtain ⟨a, kk, fd, ps, h1, h2, h3, h4, h5⟩ := T.get hF
            have ex : oIx (.lst (as.map fun a => .glob (.ref a))) (.int k) S1 = some (.glob (.ref a), S1) := by
              show (match ixD (as.map fun a => .glob (.ref a)) k with
                | some d => some (d, S1)
                | none => none) = _
              have : ixD (as.map fun a => D.glob (.ref a)) k = some (.glob (.ref a)) := by
                unfold ixD
                rw [hk]
                show (as.map fun a => D.glob (.ref a))[k.toNat]? = _
                rw [List.getElem?_map, h1]; rfl
              rw [this]
            show GO (pg X) w.W w.xm B L ρ H σ (rD (pg X) B) (outO (oIx (.lst (as.map fun a => .glob (.ref a))) (.int k) S1)) _
            rw [ex]
            intro v ρ1 H1 p1 R1 r1
            cases r1
            refine ⟨a, kk, fd, ps, F, rfl, h2, h3, h4, h5, B, L, ρ1, S1, env, A.step p1 R1, ?_⟩
            have g1 := GO.step gg p1
            revert g1
            show GO (pg X) w.W w.xm B L ρ1 H1 σ (rD (pg X) B) ((fs env S1).bind fun ds S2 => F ds S2) Q → _
            cases hfs : fs env S1 with
            | exc c S' => exact fun g => g
            | bad => exact fun g => g
            | ok ds S2 =>
              intro g vs ρ' H' pp R r
              have g' : GO (pg X) w.W w.xm B L ρ' H' σ (rD (pg X) B) (F ds S2) Q := GO.step g pp
              refine ⟨by rw [← RVs.length r]; exact hlen _ _ _ _ hfs, B, L, ρ', S2, ds, R, r, ?_⟩
              revert g'
              cases F ds S2 with
              | ok d S3 => exact fun g => g
              | exc c S3 => exact fun g => g
              | bad => exact fun g => g
      | _ => exact gg.elim
  refine Call_ (thn (hf.run pins s σ H _ I h2) fun u s1 ⟨y, H1, I1, ry, a, k, fd, ps, F, ey, kp, b, FO, hr, q⟩ => ?_) ht
  subst ey
  obtain rfl : u = Value.ref a := ry
  refine PySem.W.callWith_K (h₀ := X.base) I1.ok.mod.kin kp (thn (ha.run pos pins s1 σ H1 _ I1 q) fun us s2 ⟨vs, H2, I2, r, q2⟩ => ⟨I2.kIn, ?_⟩) he hpl
  exact run_fnS FO hr b (passAt tk σ) I2 r q2
/-- the store is handed on only where a place is handed in -/
def splitF (F : Fn) : Fn := fun ds S => bif lowL 0 ds then pureF F ds S else F ds S
theorem spOf_split {G : Pg} {xm : XM} {n : Nat} {F : Fn} {vs : List V} {H : Hp} {Q : VK} {E : XK} (h : spOf G xm n (splitF F) vs H Q E) : spOf G xm n F vs H Q E := by
  obtain ⟨hl, B, L, ρ, S, ds, R, r, g⟩ := h
  unfold splitF at g
  cases hlow : lowL 0 ds with
  | true => rw [hlow] at g; exact spOf_pure ⟨hl, B, L, ρ, S, ds, R, r, g⟩
  | false => rw [hlow] at g; exact ⟨hl, B, L, ρ, S, ds, R, r, g⟩
theorem fn_split {P : Program} {w : World} {K : PySem.W.Frag} {mg : Str → Option Value} {base : Heap} {G : Pg} {xm : XM} {k n : Nat} {f : Addr} {fd : FuncData} {ps : List Str} {F : Fn} (h : FnOk P w K mg base (L2.CX P w) k f fd ps (spOf G xm n F)) : FnOk P w K mg base (L2.CX P w) k f fd ps (spOf G xm n (splitF F)) :=
  h.imp fun vs H Q E => spOf_split
theorem split_low {F : Fn} {ds : List D} {S : Sto} (h : lowL 0 ds = true) : splitF F ds S = pureF F ds S := by unfold splitF; rw [h]; rfl
/-- list(range(n)) -/
def fListRng (m : Bool) (fa : FE) : FE := fun env S => (fa env S).bind fun x S1 => match x with
  | .int i => bif smallI i then outO (mkL m (rngL 0 i.toNat) S1) else .bad
  | _ => .bad
theorem rv_rng {K : PySem.W.Frag} {B ρ : List Addr} {H : Hp} : ∀ (n : Nat) (a : Nat), RVs K B ρ H (rngL (a : Int) n) ((List.range' a n).map fun i => V.int ((i : Nat) : Int))
  | 0, a => .nil
  | n + 1, a => by
    rw [List.range'_succ, List.map_cons]
    show RVs K B ρ H (.int a :: rngL ((a : Int) + 1) n) _
    exact .cons (.int _) (rv_rng n (a + 1))
theorem se_listRng {m : Bool} {a : Expr} {fa : FE} {p p2 pos pos2 : Pos} (hc : X.calm = true) (hl : X.mg "list" = none) (hr : X.mg "range" = none) (ha : SE X w a fa) (gl : Gl X "list" := by rfl) (gr : Gl X "range" := by rfl)
    (na : starEach [a] X.env = (false, eval a X.env) :: starEach [] X.env := by rfl) (nb : starEach [.Call (.Name "range" p2) [a] [] pos2] X.env = (false, eval (.Call (.Name "range" p2) [a] [] pos2) X.env) :: starEach [] X.env := by rfl) :
    SE X w (.Call (.Name "list" p) [.Call (.Name "range" p2) [a] [] pos2] [] pos) (fListRng m fa) :=
  PE.imp (pe_listRg hc gl hl (prg_1 gr hr ha na) nb) fun σ H Q ⟨B, L, ρ, S, env, A, gg⟩ => by
    refine tE_mono (tE_bind (rel := rD (pg X)) A gg) fun x H1 ⟨B, L, ρ, S, d, A, r, g⟩ => ?_
    cases r with
    | int i =>
      simp only at g
      cases hs : smallI i with
      | false => rw [hs] at g; exact g.elim
      | true =>
        rw [hs] at g
        obtain ⟨d', S', e, q⟩ := GO.outO (α := D) g
        obtain ⟨h1, h2⟩ := smallI_ok hs
        have rv : RVs X.K B ρ H1 (rngL 0 i.toNat) (rgV 0 i) := by
          have := rv_rng (K := X.K) (B := B) (ρ := ρ) (H := H1) i.toNat 0
          unfold rgV
          rw [Int.sub_zero, List.range_eq_range']
          have e0 : ((fun i : Nat => V.int (0 + ((i : Nat) : Int))) : Nat → V) = fun i => V.int ((i : Nat) : Int) := by funext j; rw [Int.zero_add]
          rw [e0]
          exact this
        obtain ⟨k1, k2⟩ := mkL_ok (G := pg X) A.rh rv e q
        have kl : i.toNat ≤ sizeLine := by
          have := k1
          rw [rgV_length, Int.sub_zero] at this
          exact this
        refine ⟨i, rfl, ⟨by omega, by omega, h1, h2, by rw [Int.sub_zero]; rw [sizeLine_eq] at kl; omega⟩, k2⟩
    | _ => exact g.elim
end
end Sf
end

section
set_option Elab.async false
set_option maxRecDepth 100000
set_option linter.all false
/-! Se7: a comprehension over a list that may be a place. -/
namespace Sf
open PySem PySem.Spec PyProof.Rows L2 RZ
def compV (g : D → En → Option En) (fe : FE) (env : En) (n : Nat) : Nat → Nat → Sto → Out (List D)
  | 0, _, _ => .bad
  | k + 1, i, S => match S[n]? with
    | some (.lst l) => match l[i]? with
      | none => .ok [] S
      | some d => match g d env with
        | none => .bad
        | some env1 => match fe env1 S with
          | .ok z S2 => (match compV g fe env n k (i + 1) S2 with
            | .ok zs S3 => .ok (z :: zs) S3
            | r => r)
          | .exc c S2 => .exc c S2
          | .bad => .bad
    | _ => .bad
def fCompD (m : Bool) (fa : FE) (g : D → En → Option En) (fe : FE) (vs : List Nat) : FE := fun env S => (fa env S).bind fun x S1 => match x with
  | .loc n => match S1[n]? with
    | some (.lst l) => match compV g fe (undE env vs) n (l.length + 1) 0 S1 with
      | .ok xs S2 => bif fit xs.length then (bif m then .ok (.loc S2.length) (S2 ++ [.lst xs]) else .ok (.lst xs) S2) else .bad
      | _ => .bad
    | _ => .bad
  | _ => .bad
section
variable {X : Cx} {w : Wx} {fa fe : FE} {g : D → En → Option En} {t : TG} {is : List Nat}
theorem compD_ok {m : Bool} {vs : List Nat} (hg : TgOk X.K t g is) (hv : ∀ i ∈ is, i ∈ vs) {σ : L2.St} {H : Hp} {Q : VK} (h : tE (pg X) w.W w.xm (fCompD m fa g fe vs) σ H Q) :
    tLc (iSeq X.K (tE (pg X) w.W w.xm fa)) t (tT (pg X) W0 w.xm tYesF) (tE (pg X) W0 w.xm fe) vs σ H Q := by
  obtain ⟨B, L, ρ, S, env, A, gg⟩ := h
  refine ⟨B, L, ρ, S, env, A, ?_⟩
  revert gg
  unfold fCompD
  cases fa env S with
  | exc c S' => exact fun g => g
  | bad => exact fun g => g
  | ok d S' =>
    intro gg v ρ1 H1 p R r
    have g1 := GO.step gg p
    have A1 := A.step p R
    cases r with
    | @loc n a h =>
      have g1 : GO (pg X) w.W w.xm B L ρ1 H1 σ (rD (pg X) B) (match S'[n]? with
        | some (.lst l) => (match compV g fe (undE env vs) n (l.length + 1) 0 S' with
          | .ok xs S2 => bif fit xs.length then (bif m then Out.ok (D.loc S2.length) (S2 ++ [Ob.lst xs]) else Out.ok (D.lst xs) S2) else Out.bad
          | _ => Out.bad)
        | _ => Out.bad) Q := g1
      cases q1 : S'[n]? with
      | none => rw [q1] at g1; exact g1.elim
      | some ob =>
        rw [q1] at g1
        cases ob with
        | lst l =>
          simp only at g1
          obtain ⟨vs0, h1, h2⟩ := R.ob n a _ h q1
          cases hc : compV g fe (undE env vs) n (l.length + 1) 0 S' with
          | exc c S2 => rw [hc] at g1; exact g1.elim
          | bad => rw [hc] at g1; exact g1.elim
          | ok xs S2 =>
            rw [hc] at g1
            simp only at g1
            cases hfit : fit xs.length with
            | false => rw [hfit] at g1; exact g1.elim
            | true =>
              rw [hfit] at g1
              have g2 : GO (pg X) w.W w.xm B L ρ1 H1 σ (rD (pg X) B) (bif m then Out.ok (.loc S2.length) (S2 ++ [.lst xs]) else .ok (.lst xs) S2) Q := g1
              refine ⟨a, rfl, .inl ⟨⟨vs0, .inl (.inl h1)⟩, fun D hD => ?_⟩⟩
              have hDB : D ∉ B := (R.fresh hD).2
              have hDL : D ∉ L := fun z => by obtain ⟨o, u, q⟩ := R.lk D z; rw [hD] at q; cases q
              refine ⟨fun i m H => ∃ ρ S acc accD ys, RH (pg X) (D :: B) L ρ H S ∧ RE X.K (D :: B) ρ H (undE env vs) (wipe σ vs) ∧ ρ[n]? = some a ∧ H D = some (.lst acc) ∧ RVs X.K (D :: B) ρ H accD acc ∧
                Post L ρ1 H1 ρ H ∧ compV g fe (undE env vs) n m i S = .ok ys S2 ∧ accD ++ ys = xs,
                ⟨l.length + 1, ρ1, S', [], [], xs, R.addB hD, (A1.re.wipe vs).addB hD, h, upd_same, .nil, Post.newV hD, hc, rfl⟩, ?_⟩
              rintro i k H ⟨ρ, S, acc, accD, ys, RH1, re1, hn, hDa, ra, ps, hcl, hxs⟩
              cases k with
              | zero => cases hcl
              | succ k =>
                unfold compV at hcl
                cases q2 : S[n]? with
                | none => rw [q2] at hcl; cases hcl
                | some ob2 =>
                  rw [q2] at hcl
                  cases ob2 with
                  | lst l2 =>
                    simp only at hcl
                    obtain ⟨vs2, h3, h4⟩ := RH1.ob n a _ hn q2
                    cases q3 : l2[i]? with
                    | none =>
                      rw [q3] at hcl
                      simp only at hcl
                      cases hcl
                      rw [List.append_nil] at hxs
                      subst hxs
                      refine .inl ⟨⟨vs2, .inl (.inl h3), by rw [← h4.length]; exact List.getElem?_eq_none_iff.mp q3⟩, ?_⟩
                      have hDρ : D ∉ ρ := fun z => RH1.dj D z List.mem_cons_self
                      cases m with
                      | false => exact g2 (.ref D) ρ H ps (RH1.reB fun a z => List.mem_cons_of_mem _ z) (.lst hDB hDρ hDa (ra.re (fun a z => z.imp (List.mem_cons_of_mem _) id) fun _ _ z => z))
                      | true =>
                        refine g2 (.ref D) (ρ ++ [D]) H ⟨ps.ext, ?_, fun a z => (List.mem_append.mp z).elim (ps.new a) fun z => ?_⟩ (RH1.addL hDB hDa ra) (.loc ?_)
                        · obtain ⟨tt, e⟩ := ps.pre; exact ⟨tt ++ [D], by rw [e, List.append_assoc]⟩
                        · simp at z; rw [z]; exact .inr hD
                        · rw [← RH1.len, List.getElem?_append_right (Nat.le_refl _)]; simp
                    | some d2 =>
                      rw [q3] at hcl
                      simp only at hcl
                      obtain ⟨v2, e2, r2⟩ := h4.get q3
                      refine .inr ⟨⟨vs2, v2, .inl (.inl h3), e2⟩, fun H => ∃ ρ S acc accD ys, RH (pg X) (D :: B) L ρ H S ∧ RE X.K (D :: B) ρ H (undE env vs) (wipe σ vs) ∧ ρ[n]? = some a ∧ H D = some (.lst acc) ∧ RVs X.K (D :: B) ρ H accD acc ∧
                        Post L ρ1 H1 ρ H ∧ compV g fe (undE env vs) n k (i + 1) S = .ok ys S2 ∧ accD ++ ys = xs, fun H' h => ⟨k, Nat.lt_succ_self k, h⟩, ?_⟩
                      rintro x H3 ⟨rfl, y⟩
                      have hy := y vs2 (.inl (.inl h3))
                      rw [e2] at hy; cases hy
                      cases hu : g d2 (undE env vs) with
                      | none => rw [hu] at hcl; cases hcl
                      | some env1 =>
                        rw [hu] at hcl
                        simp only at hcl
                        refine hg (D :: B) L ρ _ d2 v2 (undE env vs) env1 (wipe σ vs) _ r2 re1 hu fun σ3 re3 hw => ⟨(hw vs hv).trans (wipe_idem vs), ?_⟩
                        refine ⟨D :: B, L, ρ, S, env1, ⟨RH1, re3⟩, ?_⟩
                        intro b' ρ4 H4 p4 R4 hb
                        have hb : true = b' := hb
                        subst hb
                        have hDρ : D ∉ ρ := fun z => RH1.dj D z List.mem_cons_self
                        have e4 : H4 D = some (.lst acc) := p4.ext D _ (.inl hDρ) hDa
                        refine iteT ?_
                        cases he : fe env1 S with
                        | exc c S5 => rw [he] at hcl; cases hcl
                        | bad => rw [he] at hcl; cases hcl
                        | ok z S5 =>
                          rw [he] at hcl
                          simp only at hcl
                          cases hcr : compV g fe (undE env vs) n k (i + 1) S5 with
                          | exc c S6 => rw [hcr] at hcl; cases hcl
                          | bad => rw [hcr] at hcl; cases hcl
                          | ok zs S6 =>
                            rw [hcr] at hcl
                            cases hcl
                            refine ⟨D :: B, L, ρ4, S, env1, ⟨R4, re3.mono p4⟩, ?_⟩
                            rw [he]
                            intro y5 ρ5 H5 p5 R5 r5
                            have hD4 : D ∉ ρ4 := fun z => R4.dj D z List.mem_cons_self
                            have e5 : H5 D = some (.lst acc) := p5.ext D _ (.inl hD4) e4
                            have ps5 : Post L ρ1 H1 ρ5 H5 := ps.trans (p4.trans p5)
                            refine ⟨acc, e5, ?_, ρ5, S5, acc ++ [y5], accD ++ [z], zs, R5.av List.mem_cons_self hDL, ((re1.mono p4).mono p5).av List.mem_cons_self, p5.at (p4.at hn), upd_same,
                              ((RVs.mono p5 _ _ (RVs.mono p4 _ _ ra)).append (.cons r5 .nil)).av List.mem_cons_self, ⟨fun a u ha hu => ?_, ps5.pre, ps5.new⟩, hcr, by rw [← hxs]; simp⟩
                            · rw [← ra.length]
                              have := fit_le hfit
                              rw [← hxs] at this
                              simp at this
                              omega
                            · rw [upd_ne (ne_of_none hu hD)]
                              exact ps5.ext a u ha hu
                  | _ => cases hcl
        | _ => exact g1.elim
    | _ => exact g1.elim
theorem se_lcD {m : Bool} {tg iter elt : Expr} {scope : Scope} {own : List (Str × Nat)} {pos : Pos} (hc : X.calm = true) (hN : X.N.Nodup) (ok : BlkOk X.N X.env.scope scope own) (hv : ∀ i ∈ is, i ∈ own.map (·.2)) (hi : SE X w iter fa)
    (hg : ∀ (s : Shared) (H : Hp) (C : Addr) (cl : List (Str × Addr)) (fp : List Addr), PG (X.blk s H scope (compEnvC scope cl C X.env) fp) tg t) (hk : TgOk X.K t g is)
    (he : ∀ (s : Shared) (H : Hp) (C : Addr) (cl : List (Str × Addr)) (fp : List Addr), SE (X.blk s H scope (compEnvC scope cl C X.env) fp) (wB w) elt fe) (hs : ∀ x, foldedSetIterable iter X.env x = pure x := by intro _; rfl) :
    SE X w (.ListComp elt [⟨tg, iter, [], 0⟩] scope pos) (fCompD m fa g fe (own.map (·.2))) :=
  PE.imp (pe_lc (wi := iSeq X.K (tE (pg X) w.W w.xm fa)) hc hN (pi_seq hi) ok hg (fun _ _ _ _ _ => spt_nil (w := wB w)) he hs) fun σ H Q h =>
    compD_ok (X := X) (w := w) (is := is) hk hv h
end
end Sf
end

section
set_option Elab.async false
set_option maxRecDepth 100000
set_option linter.all false
/-! Ss1: texts. -/
namespace Sf
open PySem PySem.Spec PyProof.Rows L2
def strsD : List D → Option (List Str)
  | [] => some []
  | .str b :: r => match strsD r with
    | some bs => some (b :: bs)
    | none => none
  | _ => none
theorem strsD_ok {K : PySem.W.Frag} {B ρ : List Addr} {H : Hp} : ∀ {ds : List D} {vs : List V} {bs : List Str}, RVs K B ρ H ds vs → strsD ds = some bs → vs = bs.map V.str
  | _, _, _, .nil, e => by cases e; rfl
  | .str b :: ds, _, _, .cons (.str _) t, e => by
    unfold strsD at e
    cases q : strsD ds with
    | none => rw [q] at e; cases e
    | some cs => rw [q] at e; cases e; rw [strsD_ok t q]; rfl
  | .und :: _, _, _, .cons r _, e => by cases e
  | .non :: _, _, _, .cons r _, e => by cases e
  | .int _ :: _, _, _, .cons r _, e => by cases e
  | .bl _ :: _, _, _, .cons r _, e => by cases e
  | .tup _ :: _, _, _, .cons r _, e => by cases e
  | .lst _ :: _, _, _, .cons r _, e => by cases e
  | .scr _ :: _, _, _, .cons r _, e => by cases e
  | .loc _ :: _, _, _, .cons r _, e => by cases e
  | .glob _ :: _, _, _, .cons r _, e => by cases e
theorem rv_strs {K : PySem.W.Frag} {B ρ : List Addr} {H : Hp} : ∀ ys : List Str, RVs K B ρ H (ys.map D.str) (ys.map V.str)
  | [] => .nil
  | y :: ys => .cons (.str y) (rv_strs ys)
def mPart : OpM := fun o xs S => match o, xs with
  | .str a, [.str b] => bif !(b.length == 0) && fit a.length then some (.tup [.str (Txt.partition a b).1, .str (Txt.partition a b).2.1, .str (Txt.partition a b).2.2], S) else none
  | _, _ => none
def mSplit : OpM := fun o xs S => match o, xs with
  | .str a, [.str b] => bif !(b.length == 0) && fit (a.length + 2) then mkL false ((Txt.split a b).map D.str) S else none
  | _, _ => none
def mJoin : OpM := fun o xs S => match o, xs with
  | .str a, [x] => match lsR x S with
    | some l => (match strsD l with
      | some ys => bif fit ((ys.map (·.length)).sum + ys.length * a.length) then some (.str (Txt.join a ys), S) else none
      | none => none)
    | none => none
  | _, _ => none
def isStr : D → Bool
  | .str _ => true
  | _ => false
def fMethS (g : OpM) (fo : FE) (fs : FA) : FE := fun env S => (fo env S).bind fun o S1 => bif isStr o then (fs env S1).bind fun xs S2 => outO (g o xs S2) else .bad
section
variable {X : Cx} {w : Wx} {o e : Expr} {es : List Expr} {fo : FE} {fs : FA} {name : Str} {apos cpos : Pos}
theorem go_methS {g : OpM} {r : V → List V → Hp → VK → Prop} (h : OkM (pg X) r g) {σ : L2.St} {H : Hp} {Q : VK} (ht : tE (pg X) w.W w.xm (fMethS g fo fs) σ H Q) :
    tE (pg X) w.W w.xm fo σ H fun x H1 => tyV X.K "str" x H1 ∧ tA (pg X) w.W w.xm fs σ H1 fun xs H2 => r x xs H2 Q := by
  obtain ⟨B, L, ρ, S, env, A, gg⟩ := ht
  refine ⟨B, L, ρ, S, env, A, ?_⟩
  revert gg
  unfold fMethS
  cases fo env S with
  | exc c S' => exact fun g => g
  | bad => exact fun g => g
  | ok d S' =>
    intro g1 v ρ' H' p R r1
    have g2 : GO (pg X) w.W w.xm B L ρ' H' σ (rD (pg X) B) (bif isStr d then (fs env S').bind fun xs S2 => outO (g d xs S2) else .bad) Q := GO.step g1 p
    cases hl : isStr d with
    | false => rw [hl] at g2; exact g2.elim
    | true =>
      rw [hl] at g2
      refine ⟨(by cases r1 <;> first | rfl | (cases hl)), B, L, ρ', S', env, A.step p R, ?_⟩
      revert g2
      show GO (pg X) w.W w.xm B L ρ' H' σ (rD (pg X) B) ((fs env S').bind fun xs S2 => outO (g d xs S2)) Q → _
      cases fs env S' with
      | exc c S' => exact fun g => g
      | bad => exact fun g => g
      | ok ds S2 =>
        intro g2 vs ρ2 H2 p2 R2 r2
        have g3 : GO (pg X) w.W w.xm B L ρ2 H2 σ (rD (pg X) B) (outO (g d ds S2)) Q := GO.step g2 p2
        obtain ⟨d', S3, e, q⟩ := g3.outO
        exact h B L ρ2 S2 S3 H2 d ds d' v vs Q R2 (r1.mono p2) r2 e q
theorem ok_part : OkM (pg X) (fun x xs H Q => ∃ a b, x = .str a ∧ xs = [.str b] ∧ (b.length == 0) = false ∧ a.length ≤ sizeLine ∧ ∀ p, H p = none → Q (.ref p) (upd H p (.tup [.str (Txt.partition a b).1, .str (Txt.partition a b).2.1, .str (Txt.partition a b).2.2]))) mPart := by
  intro B L ρ S S' H o ds d' x xs Q R ro rs e q
  match o, ds, e with
  | .str a, [.str b], e =>
    obtain ⟨y, rfl, r⟩ := rvs1 rs
    cases ro; cases r
    unfold mPart at e
    simp only at e
    cases hb : (!(b.length == 0) && fit a.length) with
    | false => rw [hb] at e; cases e
    | true =>
      rw [hb] at e; cases e
      rw [Bool.and_eq_true, Bool.not_eq_true'] at hb
      exact ⟨a, b, rfl, rfl, hb.1, fit_le hb.2, mkT_ok (G := pg X) R (.cons (.str _) (.cons (.str _) (.cons (.str _) .nil))) q⟩
theorem ok_split : OkM (pg X) (fun x xs H Q => ∃ a b, x = .str a ∧ xs = [.str b] ∧ (b.length == 0) = false ∧ a.length + 2 ≤ sizeLine ∧ rNewStrs (Txt.split a b) H Q) mSplit := by
  intro B L ρ S S' H o ds d' x xs Q R ro rs e q
  match o, ds, e with
  | .str a, [.str b], e =>
    obtain ⟨y, rfl, r⟩ := rvs1 rs
    cases ro; cases r
    unfold mSplit at e
    simp only at e
    cases hb : (!(b.length == 0) && fit (a.length + 2)) with
    | false => rw [hb] at e; cases e
    | true =>
      rw [hb] at e
      rw [Bool.and_eq_true, Bool.not_eq_true'] at hb
      exact ⟨a, b, rfl, rfl, hb.1, fit_le hb.2, (mkL_ok (G := pg X) R (rv_strs _) e q).2⟩
theorem ok_join : OkM (pg X) (fun x xs H Q => ∃ a p, ∃ ys : List Str, x = .str a ∧ xs = [.ref p] ∧ (SqL X.K H p (ys.map V.str) ∨ SqT X.K H p (ys.map V.str)) ∧ (ys.map (·.length)).sum + ys.length * a.length ≤ 16777216 ∧ Q (.str (Txt.join a ys)) H) mJoin := by
  intro B L ρ S S' H o ds d' x xs Q R ro rs e q
  match o, ds, e with
  | .str a, [z], e =>
    obtain ⟨y, rfl, r⟩ := rvs1 rs
    cases ro
    unfold mJoin at e
    simp only at e
    cases e1 : lsR z S with
    | none => rw [e1] at e; cases e
    | some l =>
      rw [e1] at e
      simp only at e
      cases e2 : strsD l with
      | none => rw [e2] at e; cases e
      | some ys =>
        rw [e2] at e
        simp only at e
        cases hf : fit ((ys.map (·.length)).sum + ys.length * a.length) with
        | false => rw [hf] at e; cases e
        | true =>
          rw [hf] at e; cases e
          obtain ⟨p, vs, rfl, h1, h2⟩ := lsR_ok (G := pg X) R r e1
          obtain rfl := strsD_ok h2 e2
          exact ⟨a, p, ys, rfl, rfl, .inl h1, Nat.le_of_ble_eq_true hf, here (G := pg X) q R (.str _)⟩
theorem se_partition (ho : SE X w o fo) (ha : SA X w [e] fs) (hbase : attributeBase o "partition" X.env (eval o X.env) = eval o X.env := by rfl)
    (hfew : ((backTo cpos (starEach [e] X.env)).all (fun x => !x.1) && (backToKw cpos (keywordEach [] X.env)).all (fun x => x.1.isSome) && decide (([e] : List Expr).length + ([] : List Keyword).length + (if ([] : List Keyword).isEmpty then 0 else 1) < 30)) = true := by rfl)
    (hline : (apos.endLine == cpos.line) = true := by rfl) (hs : starEach [e] X.env = (false, eval e X.env) :: starEach [] X.env := by rfl) (hplain : (backTo cpos (starEach [] X.env)).any (·.1) = false := by rfl) :
    SE X w (.Call (.Attribute o "partition" apos) [e] [] cpos) (fMethS mPart fo fs) :=
  PE.imp (pe_bm PySem.F.plainAttrs_str PySem.F.slot_str_partition PySem.F.type_str_partition mt_partition ho ha hbase hfew hline hs hplain) fun σ H Q h => go_methS ok_part h
theorem se_split (ho : SE X w o fo) (ha : SA X w [e] fs) (hbase : attributeBase o "split" X.env (eval o X.env) = eval o X.env := by rfl)
    (hfew : ((backTo cpos (starEach [e] X.env)).all (fun x => !x.1) && (backToKw cpos (keywordEach [] X.env)).all (fun x => x.1.isSome) && decide (([e] : List Expr).length + ([] : List Keyword).length + (if ([] : List Keyword).isEmpty then 0 else 1) < 30)) = true := by rfl)
    (hline : (apos.endLine == cpos.line) = true := by rfl) (hs : starEach [e] X.env = (false, eval e X.env) :: starEach [] X.env := by rfl) (hplain : (backTo cpos (starEach [] X.env)).any (·.1) = false := by rfl) :
    SE X w (.Call (.Attribute o "split" apos) [e] [] cpos) (fMethS mSplit fo fs) :=
  PE.imp (pe_bm PySem.F.plainAttrs_str PySem.F.slot_str_split PySem.F.type_str_split mt_split ho ha hbase hfew hline hs hplain) fun σ H Q h => go_methS ok_split h
theorem se_join (ho : SE X w o fo) (ha : SA X w [e] fs) (hbase : attributeBase o "join" X.env (eval o X.env) = eval o X.env := by rfl)
    (hfew : ((backTo cpos (starEach [e] X.env)).all (fun x => !x.1) && (backToKw cpos (keywordEach [] X.env)).all (fun x => x.1.isSome) && decide (([e] : List Expr).length + ([] : List Keyword).length + (if ([] : List Keyword).isEmpty then 0 else 1) < 30)) = true := by rfl)
    (hline : (apos.endLine == cpos.line) = true := by rfl) (hs : starEach [e] X.env = (false, eval e X.env) :: starEach [] X.env := by rfl) (hplain : (backTo cpos (starEach [] X.env)).any (·.1) = false := by rfl) :
    SE X w (.Call (.Attribute o "join" apos) [e] [] cpos) (fMethS mJoin fo fs) :=
  PE.imp (pe_bm PySem.F.plainAttrs_str PySem.F.slot_str_join PySem.F.type_str_join mt_join ho ha hbase hfew hline hs hplain) fun σ H Q h => go_methS ok_join h
/-! in, slices -/
def oInS : Op2 := fun x y S => match x, y with
  | .str i, .str j => some (.bl (!(Builtin.Str.occurrences j i 0 j.length 1).isEmpty), S)
  | _, _ => none
theorem ok_inS : Ok2 (pg X) (fun x y H Q => ∃ i j, x = .str i ∧ y = .str j ∧ Q (.bl (!(Builtin.Str.occurrences j i 0 j.length 1).isEmpty)) H) oInS := by
  intro B L ρ S S' H d1 d2 d' x y Q R r1 r2 e q
  cases r1 with
  | str i => cases r2 with
    | str j => cases e; exact ⟨i, j, rfl, rfl, here (G := pg X) q R (.bl _)⟩
    | _ => cases e
  | _ => cases r2 <;> cases e
def oCutS (x : D) (lo hi : Option Int) (S : Sto) : Option (D × Sto) := match x with
  | .str z => bif fit z.length then some (.str (cutS z lo hi), S) else none
  | _ => none
def fCutS (a : FE) (lo hi : FO) : FE := fun env S => (a env S).bind fun x S1 => (lo env S1).bind fun l S2 => (hi env S2).bind fun u S3 => outO (oCutS x l u S3)
theorem se_cutS {lo hi : Option Expr} {fe : FE} {fl fh : FO} {p2 pos : Pos} (he : SE X w e fe) (hl : SO' X w lo fl) (hh : SO' X w hi fh) : SE X w (.Subscript e (.Slice lo hi none p2) pos) (fCutS fe fl fh) := by
  refine PE.imp (pe_slice sl_str he hl hh) fun σ H Q ⟨B, L, ρ, S, env, A, gg⟩ => ?_
  refine ⟨B, L, ρ, S, env, A, ?_⟩
  revert gg
  unfold fCutS
  cases fe env S with
  | ok d S' =>
    intro g v ρ' H' p R r
    have g' := GO.step g p
    refine ⟨B, L, ρ', S', env, A.step p R, ?_⟩
    revert g'
    show GO (pg X) w.W w.xm B L ρ' H' σ (rD (pg X) B) ((fl env S').bind fun l S2 => (fh env S2).bind fun u S3 => outO (oCutS d l u S3)) Q → _
    cases fl env S' with
    | ok d' S2 =>
      intro g' v2 ρ2 H2 p2 R2 r2
      have g2 := GO.step g' p2
      cases r2
      refine ⟨B, L, ρ2, S2, env, (A.step p R).step p2 R2, ?_⟩
      revert g2
      show GO (pg X) w.W w.xm B L ρ2 H2 σ (rD (pg X) B) ((fh env S2).bind fun u S3 => outO (oCutS d d' u S3)) Q → _
      cases fh env S2 with
      | ok u S3 =>
        intro g2 v3 ρ3 H3 p3 R3 r3
        have g3 := GO.step g2 p3
        cases r3
        obtain ⟨d'', S'', e, q⟩ := GO.outO g3
        have r' : RV X.K B ρ3 H3 d v := (r.mono p2).mono p3
        cases r' with
        | str z =>
          unfold oCutS at e
          simp only at e
          cases hf : fit z.length with
          | false => rw [hf] at e; cases e
          | true => rw [hf] at e; cases e; exact ⟨z, rfl, fit_le hf, here (G := pg X) q R3 (.str _)⟩
        | _ => cases e
      | exc c S' => exact fun g => g
      | bad => exact fun g => g
    | exc c S' => exact fun g => g
    | bad => exact fun g => g
  | exc c S' => exact fun g => g
  | bad => exact fun g => g
/-! str(i), int(text) -/
def oStr : OpN := fun xs S => match xs with
  | [.int i] => bif Nat.blt i.natAbs.log2 1920 then some (.str (PySem.Str.ofString (toString i)), S) else none
  | _ => none
def oInt : OpN := fun xs S => match xs with
  | [.str a] => bif Nat.ble a.length 640 then (match PySem.intText? a with
    | some n => some (.int n, S)
    | none => none) else none
  | _ => none
theorem ok_str : OkN (pg X) (fun xs H Q => ∃ i, xs = [.int i] ∧ i.natAbs.log2 < 1920 ∧ Q (.str (PySem.Str.ofString (toString i))) H) oStr := by
  intro B L ρ S S' H ds d' xs Q R rs e q
  match ds, e with
  | [.int i], e =>
    obtain ⟨x, rfl, r⟩ := rvs1 rs
    cases r
    unfold oStr at e
    simp only at e
    cases hb : Nat.blt i.natAbs.log2 1920 with
    | false => rw [hb] at e; cases e
    | true => rw [hb] at e; cases e; exact ⟨i, rfl, Nat.le_of_ble_eq_true hb, here (G := pg X) q R (.str _)⟩
theorem ok_int : OkN (pg X) (fun xs H Q => ∃ a n, xs = [.str a] ∧ PySem.intText? a = some n ∧ a.length ≤ 640 ∧ Q (.int n) H) oInt := by
  intro B L ρ S S' H ds d' xs Q R rs e q
  match ds, e with
  | [.str a], e =>
    obtain ⟨x, rfl, r⟩ := rvs1 rs
    cases r
    unfold oInt at e
    simp only at e
    cases hb : Nat.ble a.length 640 with
    | false => rw [hb] at e; cases e
    | true =>
      rw [hb] at e
      cases hi : PySem.intText? a with
      | none => rw [hi] at e; cases e
      | some n => rw [hi] at e; cases e; exact ⟨a, n, rfl, hi, Nat.le_of_ble_eq_true hb, here (G := pg X) q R (.int _)⟩
end
end Sf
end

section
set_option Elab.async false
set_option maxRecDepth 100000
/-! the defs as terms -/
namespace Sf
open PySem L2
def b_is_count : FS := sRet (fAnd (fOpN oIsa (fCons (fVar 0) (fCons (fCon (.glob (.ty "int"))) (fNil)))) (fAnd (fNot (fOpN oIsa (fCons (fVar 0) (fCons (fCon (.glob (.ty "bool"))) (fNil))))) (fChain (fun i j => decide (i ≤ j)) (fun i j => decide (i ≤ j)) (fVar 1) (fVar 0) (fVar 2))))
def f_is_count : Fn := fn false 3 b_is_count
def b_formatted : FS := sSeq (sAsg 1 (fLst true (fNil)))
    (sSeq (sFor (iSq (fVar 0)) (unTup [2, 3, 4]) (sExpr (fMethL mAppend (fVar 1) (fCons (fOp2 (oAdd false) (fOp2 (oAdd false) (fOp2 (oAdd false) (fOpN (oStr) (fCons (fVar 2) (fNil))) (fCon (.str "/"))) (fOpN (oStr) (fCons (fVar 3) (fNil)))) (fIf (tVal (fOp2 oIs (fVar 4) (fCon .non))) (fCon (.str "")) (fOp2 (oAdd false) (fCon (.str "-")) (fOpN (oStr) (fCons (fVar 4) (fNil)))))) (fNil)))))
    (sRet (fMethS mJoin (fCon (.str " ")) (fCons (fVar 1) (fNil)))))
def f_formatted : Fn := fn false 5 b_formatted
def b_number_of : FS := sRet (fIf (Sf.tAnd (tVal (fOp2 oEq (fOpN oLen (fCons (fVar 0) (fNil))) (fCon (.int 1)))) (tVal (fOp2 oInS (fVar 0) (fCon (.str "0123456789"))))) (fOpN (oInt) (fCons (fVar 0) (fNil))) (fCon (.int 0)))
def f_number_of : Fn := fn false 1 b_number_of
def b__law_draw : FS := sSeq (sIf (tVal (fOp2 oGt (fOp2 oIx (fVar 1) (fCon (.int 1))) (fCon (.int 0)))) (sSeq (sAsg 3 (fOp2 (oMod) (fOp2 oIx (fVar 1) (fCon (.int 1))) (fVar 2)))
    (sSeq (sAsgIx (fOp2 (oFdiv) (fOp2 oIx (fVar 1) (fCon (.int 1))) (fVar 2)) (fVar 1) (fCon (.int 1)))
    (sRet (fVar 3)))) (sSkip))
    (sSeq (sAsg 4 (fOp2 oIx (fVar 1) (fCon (.int 0))))
    (sSeq (sAugIx oAddI (fVar 1) (fCon (.int 0)) (fCon (.int 1)))
    (sSeq (sIf (tVal (fOp2 oEq (fVar 0) (fLst false (fNil)))) (sRet (fOp2 (oMod) (fVar 4) (fVar 2))) (sSkip))
    (sSeq (sIf (Sf.tAnd (tVal (fOp2 oLt (fVar 4) (fOpN oLen (fCons (fVar 0) (fNil))))) (tVal (fOp2 oGe (fOp2 oIx (fVar 0) (fVar 4)) (fOp2 (oPow) (fCon (.int 10)) (fCon (.int 18)))))) (sSeq (sAsgIx (fOp2 (oMod) (fOp2 (oFdiv) (fOp2 oIx (fVar 0) (fVar 4)) (fVar 2)) (fOp2 (oMul false) (fOp2 (oPow) (fCon (.int 10)) (fCon (.int 60))) (fOp2 (oPow) (fCon (.int 10)) (fCon (.int 60))))) (fVar 1) (fCon (.int 1)))
    (sRet (fOp2 (oMod) (fOp2 oIx (fVar 0) (fVar 4)) (fVar 2)))) (sSkip))
    (sSeq (sAsg 5 (fOp2 (oMod) (fOp2 (oAdd false) (fOp2 (oAdd false) (fOp2 (oMul false) (fOp2 oIx (fVar 0) (fOp2 (oMod) (fVar 4) (fOpN oLen (fCons (fVar 0) (fNil))))) (fCon (.int 1103515245))) (fOp2 (oMul false) (fCon (.int 7919)) (fVar 4))) (fCon (.int 12345))) (fCon (.int 2147483647))))
    (sRet (fOp2 (oMod) (fOp2 (oMod) (fOp2 (oMod) (fOp2 (oPow) (fVar 5) (fCon (.int 5))) (fCon (.int 2147483647))) (fCon (.int 999983))) (fVar 2))))))))
def f__law_draw : Fn := fn false 6 b__law_draw
def b__law_text : FS := sSeq (sAsg 1 (fCon (.str "")))
    (sSeq (sFor (iSq (fVar 0)) (unTup [2, 3, 4]) (sSeq (sAsg 1 (fOp2 (oAdd false) (fOp2 (oAdd false) (fOp2 (oAdd false) (fOp2 (oAdd false) (fVar 1) (fIf (tVal (fOp2 oNe (fVar 1) (fCon (.str "")))) (fCon (.str " ")) (fCon (.str "")))) (fOpN (oStr) (fCons (fVar 2) (fNil)))) (fCon (.str "/"))) (fOpN (oStr) (fCons (fVar 3) (fNil)))))
    (sAsg 1 (fOp2 (oAdd false) (fVar 1) (fIf (tVal (fOp2 oIs (fVar 4) (fCon .non))) (fCon (.str "")) (fOp2 (oAdd false) (fCon (.str "-")) (fOpN (oStr) (fCons (fVar 4) (fNil)))))))))
    (sRet (fVar 1)))
def f__law_text : Fn := fn false 5 b__law_text
def b_is_level : FS := sSeq (sIf (Sf.tOr (tNot (tVal (fOpN oIsa (fCons (fVar 0) (fCons (fCon (.glob (.ty "tuple"))) (fNil)))))) (Sf.tOr (tVal (fOp2 oNe (fOpN oLen (fCons (fVar 0) (fNil))) (fCon (.int 3)))) (tNot (tVal (fCall (pureF f_is_count) (fCons (fOp2 oIx (fVar 0) (fCon (.int 0))) (fCons (fCon (.int 1)) (fCons (fCon (.int 5)) (fNil))))))))) (sRet (fCon (.bl false))) (sSkip))
    (sRet (fAnd (fCall (pureF f_is_count) (fCons (fOp2 oIx (fVar 0) (fCon (.int 1))) (fCons (fCon (.int 1)) (fCons (fCon (.int 3)) (fNil))))) (fOr (fOp2 oIs (fOp2 oIx (fVar 0) (fCon (.int 2))) (fCon .non)) (fCall (pureF f_is_count) (fCons (fOp2 oIx (fVar 0) (fCon (.int 2))) (fCons (fOp2 oIx (fVar 0) (fCon (.int 0))) (fCons (fCon (.int 9)) (fNil))))))))
def f_is_level : Fn := fn false 1 b_is_level
def b_parsed_level : FS := sSeq (sAsgT [1, 2, 3] (fMethS mPart (fVar 0) (fCons (fCon (.str "/")) (fNil))))
    (sSeq (sAsgT [4, 5, 6] (fMethS mPart (fVar 3) (fCons (fCon (.str "-")) (fNil))))
    (sRet (fTup (fCons (fCall (pureF f_number_of) (fCons (fVar 1) (fNil))) (fCons (fCall (pureF f_number_of) (fCons (fVar 4) (fNil))) (fCons (fIf (tVal (fOp2 oNe (fVar 5) (fCon (.str "")))) (fCall (pureF f_number_of) (fCons (fVar 6) (fNil))) (fCon .non)) (fNil)))))))
def f_parsed_level : Fn := fn false 7 b_parsed_level
def b__law_pick : FS := sRet (fOp2 oIx (fVar 2) (fCall f__law_draw (fCons (fVar 0) (fCons (fVar 1) (fCons (fOpN oLen (fCons (fVar 2) (fNil))) (fNil))))))
def f__law_pick : Fn := fn false 3 b__law_pick
def b_is_form : FS := sRet (fAnd (fOpN oIsa (fCons (fVar 0) (fCons (fCon (.glob (.ty "tuple"))) (fNil)))) (fAnd (fChain (fun i j => decide (i ≤ j)) (fun i j => decide (i ≤ j)) (fCon (.int 1)) (fOpN oLen (fCons (fVar 0) (fNil))) (fCon (.int 3))) (fOpN oAll (fCons (fComp false (iSq (fVar 0)) (tgName 1) (tYesF) (fCall (pureF f_is_level) (fCons (fVar 1) (fNil))) [1]) (fNil)))))
def f_is_form : Fn := fn false 2 b_is_form
def b__law_level : FS := sSeq (sAsg 3 (fOp2 (oAdd false) (fCon (.int 1)) (fCall f__law_draw (fCons (fVar 0) (fCons (fVar 1) (fCons (fVar 2) (fNil)))))))
    (sSeq (sAsg 4 (fCall f__law_pick (fCons (fVar 0) (fCons (fVar 1) (fCons (fLst false (fCons (fCon .non) (fCons (fCon .non) (fCons (fVar 3) (fCons (fOp2 (oAdd false) (fVar 3) (fCon (.int 1))) (fCons (fOp2 (oAdd false) (fVar 3) (fCon (.int 3))) (fNil))))))) (fNil))))))
    (sRet (fTup (fCons (fVar 3) (fCons (fOp2 (oAdd false) (fCon (.int 1)) (fCall f__law_draw (fCons (fVar 0) (fCons (fVar 1) (fCons (fCon (.int 3)) (fNil)))))) (fCons (fVar 4) (fNil)))))))
def f__law_level : Fn := fn false 5 b__law_level
def b_need_form : FS := sIf (tNot (tVal (fCall (pureF f_is_form) (fCons (fVar 0) (fNil))))) (sRaise 0) (sSkip)
def f_need_form : Fn := fn false 1 b_need_form
def b_parse_form : FS := sSeq (sIf (tNot (tVal (fOpN oIsa (fCons (fVar 0) (fCons (fCon (.glob (.ty "str"))) (fNil)))))) (sRaise 6) (sSkip))
    (sSeq (sAsg 1 (fOpN (oTuple) (fCons (fComp false (iSq (fMethS mSplit (fVar 0) (fCons (fCon (.str " ")) (fNil)))) (tgName 2) (tYesF) (fCall (pureF f_parsed_level) (fCons (fVar 2) (fNil))) [2]) (fNil))))
    (sSeq (sIf (Sf.tOr (tNot (tVal (fCall (pureF f_is_form) (fCons (fVar 1) (fNil))))) (tVal (fOp2 oNe (fCall (pureF f_formatted) (fCons (fVar 1) (fNil))) (fVar 0)))) (sRaise 6) (sSkip))
    (sRet (fVar 1))))
def f_parse_form : Fn := fn false 3 b_parse_form
def b__law_form : FS := sSeq (sAsg 2 (fCall f__law_pick (fCons (fVar 0) (fCons (fVar 1) (fCons (fLst false (fCons (fCon (.int 1)) (fCons (fCon (.int 1)) (fCons (fCon (.int 2)) (fCons (fCon (.int 2)) (fCons (fCon (.int 3)) (fNil))))))) (fNil))))))
    (sRet (fOpN (oTuple) (fCons (fComp false (iOf kRng1 (fCons (fVar 2) (fNil))) (tgName 3) (tYesF) (fCall f__law_level (fCons (fVar 0) (fCons (fVar 1) (fCons (fIf (tVal (fOp2 oLt (fVar 2) (fCon (.int 3)))) (fOp2 (oSub) (fCon (.int 5)) (fVar 2)) (fCon (.int 2))) (fNil))))) [3]) (fNil))))
def f__law_form : Fn := fn false 4 b__law_form
def b_format_form : FS := sSeq (sExpr (fCall (pureF f_need_form) (fCons (fVar 0) (fNil))))
    (sRet (fCall (pureF f_formatted) (fCons (fVar 0) (fNil))))
def f_format_form : Fn := fn false 1 b_format_form
def b__law_ask : FS := sTry [0, 6] whD (sRet (fPickC [splitF f_format_form, splitF f_parse_form] (fVar 0) (fCons (fVar 1) (fNil))))
def f__law_ask : Fn := fn false 3 b__law_ask
def b_law : FS := sSeq (sAsg 1 (fLst true (fCons (fCon (.int 0)) (fCons (fCon (.int 0)) (fNil)))))
    (sSeq (sAsg 2 (fCall f__law_form (fCons (fVar 0) (fCons (fVar 1) (fNil)))))
    (sSeq (sAsg 3 (fCall (pureF f__law_text) (fCons (fVar 2) (fNil))))
    (sSeq (sIf (Sf.tOr (tVal (fOp2 oNe (fCall (splitF f__law_ask) (fCons (fCon (.int 0)) (fCons (fVar 2) (fNil)))) (fVar 3))) (tVal (fOp2 oNe (fCall (splitF f__law_ask) (fCons (fCon (.int 1)) (fCons (fVar 3) (fNil)))) (fVar 2)))) (sRet (fCon (.bl false))) (sSkip))
    (sSeq (sFor (iOf kRng1 (fCons (fCon (.int 8)) (fNil))) (tgName 4) (sSeq (sAsg 5 (fCall f__law_draw (fCons (fVar 0) (fCons (fVar 1) (fCons (fOp2 (oAdd false) (fOpN oLen (fCons (fVar 3) (fNil))) (fCon (.int 1))) (fNil))))))
    (sSeq (sAsg 6 (fCall f__law_pick (fCons (fVar 0) (fCons (fVar 1) (fCons (fLst false (fCons (fCon (.str "")) (fCons (fCon (.str "0")) (fCons (fCon (.str "1")) (fCons (fCon (.str "/")) (fCons (fCon (.str "-")) (fCons (fCon (.str " ")) (fCons (fCon (.str "2")) (fCons (fCon (.str "5")) (fCons (fCon (.str "x")) (fNil))))))))))) (fNil))))))
    (sSeq (sAsg 7 (fOp2 (oAdd false) (fOp2 (oAdd false) (fCutS (fVar 3) (fNoPart) (fPart (fVar 5))) (fVar 6)) (fCutS (fVar 3) (fPart (fOp2 (oAdd false) (fVar 5) (fCall f__law_draw (fCons (fVar 0) (fCons (fVar 1) (fCons (fCon (.int 2)) (fNil))))))) (fNoPart))))
    (sSeq (sAsg 8 (fCall (splitF f__law_ask) (fCons (fCon (.int 1)) (fCons (fVar 7) (fNil)))))
    (sIf (Sf.tAnd (tVal (fOp2 oNe (fVar 8) (fTup (fCons (fCon (.str "raised")) (fCons (fCon (.int 6)) (fNil)))))) (Sf.tOr (tVal (fOp2 oIsN (fCall (pureF f_is_form) (fCons (fVar 8) (fNil))) (fCon (.bl true)))) (tVal (fOp2 oNe (fCall (pureF f__law_text) (fCons (fVar 8) (fNil))) (fVar 7))))) (sRet (fCon (.bl false))) (sSkip)))))))
    (sSeq (sAsg 9 (fLst true (fCons (fCon (.str "")) (fCons (fCon (.str " ")) (fCons (fCon (.str "4")) (fCons (fCon (.str "4/")) (fCons (fCon (.str "/2")) (fCons (fCon (.str "4/2-")) (fCons (fCon (.str "4/2-3")) (fCons (fCon (.str "4/2 ")) (fCons (fCon (.str " 4/2")) (fCons (fCon (.str "4/2  4/2")) (fCons (fCon (.str "4/2,4/2")) (fCons (fCon (.str "6/1")) (fNil)))))))))))))))
    (sSeq (sExpr (fMethL mExtend (fVar 9) (fCons (fLst false (fCons (fCon (.str "0/1")) (fCons (fCon (.str "4/4")) (fCons (fCon (.str "4/0")) (fCons (fCon (.str "4/2-10")) (fCons (fCon (.str "04/2")) (fNil))))))) (fNil))))
    (sSeq (sExpr (fMethL mExtend (fVar 9) (fCons (fLst false (fCons (fCon (.str "4/2 4/2 4/2 4/2")) (fCons (fCon (.str "4-2")) (fCons (fCon (.str "4/2/3")) (fCons (fCon (.str "4/2-5-6")) (fCons (fCon (.str "4/+2")) (fCons (fCon .non) (fCons (fCon (.int 5)) (fCons (fLst false (fCons (fCon (.str "4/2")) (fNil))) (fCons (fCon (.str "4/2-0")) (fNil))))))))))) (fNil))))
    (sSeq (sIf (tVal (fOp2 oNe (fCompD false (fVar 9) (tgName 10) (fCall (splitF f__law_ask) (fCons (fCon (.int 1)) (fCons (fVar 10) (fNil)))) [10]) (fOp2 (oMul false) (fLst false (fCons (fTup (fCons (fCon (.str "raised")) (fCons (fCon (.int 6)) (fNil)))) (fNil))) (fOpN oLen (fCons (fVar 9) (fNil)))))) (sRet (fCon (.bl false))) (sSkip))
    (sSeq (sIf (tVal (fOp2 oNe (fCall (splitF f__law_ask) (fCons (fCon (.int 1)) (fCons (fCon (.str "4/2 5/2-7 2/1")) (fNil)))) (fTup (fCons (fTup (fCons (fCon (.int 4)) (fCons (fCon (.int 2)) (fCons (fCon .non) (fNil))))) (fCons (fTup (fCons (fCon (.int 5)) (fCons (fCon (.int 2)) (fCons (fCon (.int 7)) (fNil))))) (fCons (fTup (fCons (fCon (.int 2)) (fCons (fCon (.int 1)) (fCons (fCon .non) (fNil))))) (fNil))))))) (sRet (fCon (.bl false))) (sSkip))
    (sRet (fOp2 oEq (fComp false (iSq (fTup (fCons (fCon .non) (fCons (fTup (fNil)) (fCons (fVar 3) (fCons (fOpN (oList false) (fCons (fVar 2) (fNil))) (fCons (fOp2 (oAdd false) (fVar 2) (fTup (fCons (fTup (fCons (fCon (.int 1)) (fNil))) (fNil)))) (fNil)))))))) (tgName 10) (tYesF) (fCall (splitF f__law_ask) (fCons (fCon (.int 0)) (fCons (fVar 10) (fNil)))) [10]) (fOp2 (oMul false) (fLst false (fCons (fTup (fCons (fCon (.str "raised")) (fCons (fCon (.int 0)) (fNil)))) (fNil))) (fCon (.int 5))))))))))))))
def f_law : Fn := fn false 11 b_law
end Sf
end

section
set_option Elab.async false
set_option maxRecDepth 100000
set_option linter.all false
set_option maxHeartbeats 4000000
namespace Sf
open PySem L2
/-! the draws -/
def tw (p q : Int) (R : Sto) : Sto := .lst [.int p, .int q] :: R
theorem nat_blt {a b : Nat} (h : a < b) : Nat.blt a b = true := Nat.ble_eq_true_of_le h
theorem t_draw {ns : List Int} {n p q : Int} {R : Sto} (h1 : 1 ≤ n) (h2 : n < 100000) (hp : 0 ≤ p) (hq : 0 ≤ q) :
    ∃ r p' q', 0 ≤ r ∧ r < n ∧ 0 ≤ p' ∧ 0 ≤ q' ∧ f__law_draw [.scr (ns.map D.int), .loc 0, .int n] (tw p q R) = .ok (.int r) (tw p' q' R) := by
  have n0 : 0 < n := by omega
  have hm : ∀ i : Int, 0 ≤ i % n ∧ i % n < n := fun i => ⟨Int.emod_nonneg _ (by omega), Int.emod_lt_of_pos _ n0⟩
  unfold tw f__law_draw fn b__law_draw
  by_cases c1 : 0 < q
  · refine ⟨q % n, p, q / n, (hm _).1, (hm _).2, hp, Int.ediv_nonneg hq (by omega), ?_⟩
    simp [c1, mod_ok n0, fdiv_ok n0 (show n < 1000000 by omega), end_rt]
  · have p1 : 0 ≤ p + 1 := by omega
    cases ns with
    | nil =>
      refine ⟨p % n, p + 1, q, (hm _).1, (hm _).2, p1, hq, ?_⟩
      have e := eqScr0 (l := []) (S := [.lst [.int (p + 1), .int q]] ++ R)
      simp at e
      simp [c1, e, mod_ok n0, end_rt]
    | cons a as =>
      have e := eqScr0 (l := a :: as) (S := [.lst [.int (p + 1), .int q]] ++ R)
      simp at e
      have L0 : 0 < (((a :: as).length : Nat) : Int) := by simp
      have i2 := ix_int (l := a :: as) (i := p % ((a :: as).length : Nat)) (Int.emod_nonneg _ (by omega)) (Int.emod_lt_of_pos _ L0)
      obtain ⟨k2, _, i2⟩ := i2
      have hw : Nat.blt (((k2 * 1103515245 + 7919 * p + 12345) % 2147483647).natAbs) 18446744073709551616 = true := nat_blt (by omega)
      have m5 : ∀ S, oPow (.int ((k2 * 1103515245 + 7919 * p + 12345) % 2147483647)) (.int 5) S = some (.int (((k2 * 1103515245 + 7919 * p + 12345) % 2147483647) ^ 5), S) := fun _ => by
        unfold oPow
        simp only
        rw [hw]
        rfl
      have q18 : ∀ S, oPow (.int 10) (.int 18) S = some (.int 1000000000000000000, S) := fun _ => rfl
      have q60 : ∀ S, oPow (.int 10) (.int 60) S = some (.int 1000000000000000000000000000000000000000000000000000000000000, S) := fun _ => rfl
      have m60 : ∀ S, oMul false (.int 1000000000000000000000000000000000000000000000000000000000000) (.int 1000000000000000000000000000000000000000000000000000000000000) S = some (.int 1000000000000000000000000000000000000000000000000000000000000000000000000000000000000000000000000000000000000000000000000, S) := fun _ => rfl
      have mq : ∀ i S, oMod (.int i) (.int 1000000000000000000000000000000000000000000000000000000000000000000000000000000000000000000000000000000000000000000000000) S = some (.int (i % 1000000000000000000000000000000000000000000000000000000000000000000000000000000000000000000000000000000000000000000000000), S) := fun _ _ => mod_ok (by decide)
      have mA : ∀ i S, oMod (.int i) (.int 2147483647) S = some (.int (i % 2147483647), S) := fun _ _ => mod_ok (by decide)
      have mB : ∀ i S, oMod (.int i) (.int 999983) S = some (.int (i % 999983), S) := fun _ _ => mod_ok (by decide)
      have mC : ∀ S, oMod (.int p) (.int ((as.length : Int) + 1)) S = some (.int (p % ((as.length : Int) + 1)), S) := fun _ => mod_ok (by omega)
      have mD : ∀ i S, oMul false (.int i) (.int 1103515245) S = some (.int (i * 1103515245), S) := fun _ _ => mul_r rfl
      have mE : ∀ i S, oMul false (.int 7919) (.int i) S = some (.int (7919 * i), S) := fun _ _ => mul_l rfl
      simp only [List.map_cons, List.length_cons, Int.natCast_add, Int.cast_ofNat_Int] at e L0 i2
      by_cases c2 : p < ((a :: as).length : Nat)
      · obtain ⟨k1, _, i1⟩ := ix_int (l := a :: as) (i := p) hp c2
        simp only [List.map_cons, List.length_cons, Int.natCast_add, Int.cast_ofNat_Int] at i1 c2
        by_cases c3 : 1000000000000000000 ≤ k1
        · refine ⟨k1 % n, p + 1, k1 / n % 1000000000000000000000000000000000000000000000000000000000000000000000000000000000000000000000000000000000000000000000000, (hm _).1, (hm _).2, p1, Int.emod_nonneg _ (by decide), ?_⟩
          simp [c1, e, c2, i1, q18, c3, fdiv_ok n0 (show n < 1000000 by omega), q60, m60, mq, mod_ok n0, end_rt]
        · refine ⟨((k2 * 1103515245 + 7919 * p + 12345) % 2147483647) ^ 5 % 2147483647 % 999983 % n, p + 1, q, (hm _).1, (hm _).2, p1, hq, ?_⟩
          simp [c1, e, c2, i1, q18, c3, mA, mB, mC, mD, mE, i2, m5, mod_ok n0, end_rt]
      · refine ⟨((k2 * 1103515245 + 7919 * p + 12345) % 2147483647) ^ 5 % 2147483647 % 999983 % n, p + 1, q, (hm _).1, (hm _).2, p1, hq, ?_⟩
        simp only [List.map_cons, List.length_cons, Int.natCast_add, Int.cast_ofNat_Int] at c2
        simp [c1, e, c2, q18, mA, mB, mC, mD, mE, i2, m5, mod_ok n0, end_rt]

end Sf
end

section
set_option Elab.async false
set_option maxRecDepth 100000
set_option linter.all false
set_option maxHeartbeats 4000000
namespace Sf
open PySem L2
/-! forms -/
structure Lv where
  t : Int
  l : Int
  c : Option Int
def oI : Option Int → D
  | some i => .int i
  | none => .non
@[simp] theorem oI_none : oI none = .non := rfl
@[simp] theorem oI_some {i : Int} : oI (some i) = .int i := rfl
def Lv.D (v : Lv) : Sf.D := .tup [.int v.t, .int v.l, oI v.c]
def Lv.Ok (v : Lv) : Prop := 1 ≤ v.t ∧ v.t ≤ 5 ∧ 1 ≤ v.l ∧ v.l ≤ 3 ∧ ∀ c, v.c = some c → v.t ≤ c ∧ c ≤ 9
def Lv.In (m : Int) (v : Lv) : Prop := 1 ≤ v.t ∧ v.t ≤ m ∧ 1 ≤ v.l ∧ v.l ≤ 3 ∧ (v.c = none ∨ v.c = some v.t ∨ v.c = some (v.t + 1) ∨ v.c = some (v.t + 3))
theorem Lv.In.ok {m : Int} {v : Lv} (h : v.In m) (hm : m ≤ 5) : v.Ok := by
  obtain ⟨h1, h2, h3, h4, h5⟩ := h
  refine ⟨h1, by omega, h3, h4, fun c e => ?_⟩
  rw [e] at h5
  simp at h5
  omega
@[simp] theorem tw_len {p q : Int} {R : Sto} : (tw p q R).length = R.length + 1 := by unfold tw; simp

end Sf
end

section
set_option Elab.async false
set_option maxRecDepth 100000
set_option linter.all false
set_option maxHeartbeats 4000000
namespace Sf
open PySem L2
/-! a random level -/
theorem t_pick {ns : List Int} {l : List D} {p q : Int} {R : Sto} (h1 : l ≠ []) (h2 : l.length < 100000) (hp : 0 ≤ p) (hq : 0 ≤ q) :
    ∃ i p' q', i < l.length ∧ 0 ≤ p' ∧ 0 ≤ q' ∧ ∀ d, l[i]? = some d → f__law_pick [.scr (ns.map D.int), .loc 0, .lst l] (tw p q R) = .ok d (tw p' q' R) := by
  have : 0 < l.length := List.length_pos_iff.mpr h1
  obtain ⟨r, p', q', r1, r2, hp', hq', e⟩ := t_draw (ns := ns) (n := l.length) (R := R) (by omega) (by omega) hp hq
  refine ⟨r.toNat, p', q', by omega, hp', hq', fun d hd => ?_⟩
  unfold f__law_pick fn b__law_pick
  simp [e, ix_nn r1, hd, end_rt]
theorem t_level {ns : List Int} {m p q : Int} {R : Sto} (h1 : 1 ≤ m) (h2 : m ≤ 5) (hp : 0 ≤ p) (hq : 0 ≤ q) :
    ∃ v p' q', Lv.In m v ∧ 0 ≤ p' ∧ 0 ≤ q' ∧ f__law_level [.scr (ns.map D.int), .loc 0, .int m] (tw p q R) = .ok v.D (tw p' q' R) := by
  obtain ⟨r, p1, q1, r1, r2, hp, hq, e1⟩ := t_draw (ns := ns) (n := m) (R := R) (by omega) (by omega) hp hq
  obtain ⟨i, p2, q2, i1, hp, hq, e2⟩ := t_pick (ns := ns) (R := R) (l := [.non, .non, .int (1 + r), .int (1 + r + 1), .int (1 + r + 3)]) (by simp) (by simp) hp hq
  obtain ⟨u, p3, q3, u1, u2, hp, hq, e3⟩ := t_draw (ns := ns) (n := 3) (R := R) (by omega) (by omega) hp hq
  have key : ∀ c : Option Int, ([.non, .non, .int (1 + r), .int (1 + r + 1), .int (1 + r + 3)] : List D)[i]? = some (oI c) → (c = none ∨ c = some (1 + r) ∨ c = some (1 + r + 1) ∨ c = some (1 + r + 3)) →
      ∃ v p' q', Lv.In m v ∧ 0 ≤ p' ∧ 0 ≤ q' ∧ f__law_level [.scr (ns.map D.int), .loc 0, .int m] (tw p q R) = .ok v.D (tw p' q' R) := fun c hc hc' => by
    refine ⟨⟨1 + r, 1 + u, c⟩, p3, q3, ⟨by simp only; omega, by simp only; omega, by simp only; omega, by simp only; omega, hc'⟩, hp, hq, ?_⟩
    have e2 := e2 _ hc
    unfold f__law_level fn b__law_level
    rcases hc' with rfl | rfl | rfl | rfl <;> simp at e2 <;> simp [e1, e2, e3, end_rt, Lv.D]
  match i, i1 with
  | 0, _ => exact key none rfl (.inl rfl)
  | 1, _ => exact key none rfl (.inl rfl)
  | 2, _ => exact key (some (1 + r)) rfl (.inr (.inl rfl))
  | 3, _ => exact key (some (1 + r + 1)) rfl (.inr (.inr (.inl rfl)))
  | 4, _ => exact key (some (1 + r + 3)) rfl (.inr (.inr (.inr rfl)))
  | i + 5, h => simp at h; omega

end Sf
end

section
set_option Elab.async false
set_option maxRecDepth 100000
set_option linter.all false
set_option maxHeartbeats 4000000
namespace Sf
open PySem L2
/-! forms; comprehensions that draw -/
theorem comp_tw {α : Type} (P : α → Prop) (enc : α → D) (e : FE) (env : En) (j : Nat) (R : Sto) : ∀ (l : List D) (p q : Int),
    (∀ d ∈ l, ∀ p q : Int, 0 ≤ p → 0 ≤ q → ∃ a p' q', P a ∧ 0 ≤ p' ∧ 0 ≤ q' ∧ e (env.set j d) (tw p q R) = .ok (enc a) (tw p' q' R)) → 0 ≤ p → 0 ≤ q →
    ∃ (as : List α) (p' q' : Int), as.length = l.length ∧ (∀ a ∈ as, P a) ∧ 0 ≤ p' ∧ 0 ≤ q' ∧ compL (tgName j) tYesF e env l (tw p q R) = .ok (as.map enc) (tw p' q' R)
  | [], p, q, _, hp, hq => ⟨[], p, q, rfl, by simp, hp, hq, rfl⟩
  | d :: l, p, q, h, hp, hq => by
    obtain ⟨a, p1, q1, ha, hp, hq, e1⟩ := h d (by simp) p q hp hq
    obtain ⟨as, p2, q2, l2, has, hp, hq, e2⟩ := comp_tw P enc e env j R l p1 q1 (fun d hd => h d (by simp [hd])) hp hq
    refine ⟨a :: as, p2, q2, by simp [l2], by simpa using ⟨ha, has⟩, hp, hq, ?_⟩
    simp only [compL, x_tgName, x_yes, e1, e2]
    rfl
theorem comp_map {α : Type} (enc enc2 : α → D) (e : FE) (env : En) (j : Nat) (S : Sto) : ∀ (l : List α), (∀ a ∈ l, e (env.set j (enc a)) S = .ok (enc2 a) S) →
    compL (tgName j) tYesF e env (l.map enc) S = .ok (l.map enc2) S
  | [], _ => rfl
  | a :: l, h => by
    simp only [List.map_cons, compL, x_tgName, x_yes, h a (by simp), comp_map enc enc2 e env j S l (fun a ha => h a (by simp [ha]))]
def mostT (k : Nat) : Int := if k < 3 then 5 - k else 2
def Drawn (vs : List Lv) : Prop := 1 ≤ vs.length ∧ vs.length ≤ 3 ∧ ∀ v ∈ vs, v.In (mostT vs.length)
def Form (vs : List Lv) : Prop := 1 ≤ vs.length ∧ vs.length ≤ 3 ∧ ∀ v ∈ vs, v.Ok
theorem Drawn.form {vs : List Lv} (h : Drawn vs) : Form vs := ⟨h.1, h.2.1, fun v hv => (h.2.2 v hv).ok (by unfold mostT; split <;> omega)⟩
abbrev formD (vs : List Lv) : D := .tup (vs.map Lv.D)
theorem rngL_mem {n : Nat} {lo : Int} {d : D} (h : d ∈ rngL lo n) : ∃ k : Int, d = .int k := by
  obtain ⟨i, e⟩ := List.mem_iff_getElem?.mp h
  exact ⟨_, rngL_get e⟩

end Sf
end

section
set_option Elab.async false
set_option maxRecDepth 100000
set_option linter.all false
set_option maxHeartbeats 4000000
namespace Sf
open PySem L2
theorem t_form {ns : List Int} {p q : Int} {R : Sto} (hp : 0 ≤ p) (hq : 0 ≤ q) :
    ∃ vs p' q', Drawn vs ∧ 0 ≤ p' ∧ 0 ≤ q' ∧ f__law_form [.scr (ns.map D.int), .loc 0] (tw p q R) = .ok (formD vs) (tw p' q' R) := by
  obtain ⟨i, p2, q2, i1, hp, hq, e2⟩ := t_pick (ns := ns) (R := R) (l := [.int 1, .int 1, .int 2, .int 2, .int 3]) (by simp) (by simp) hp hq
  have key : ∀ k : Nat, 1 ≤ k → k ≤ 3 → ([.int 1, .int 1, .int 2, .int 2, .int 3] : List D)[i]? = some (.int k) →
      ∃ vs p' q', Drawn vs ∧ 0 ≤ p' ∧ 0 ≤ q' ∧ f__law_form [.scr (ns.map D.int), .loc 0] (tw p q R) = .ok (formD vs) (tw p' q' R) := fun k k1 k2 hk => by
    have e2 := e2 _ hk
    obtain ⟨vs, p3, q3, hl, hv, hp, hq, e⟩ := comp_tw (Lv.In (mostT k)) Lv.D (fCall f__law_level (fCons (fVar 0) (fCons (fVar 1) (fCons (fIf (tVal (fOp2 oLt (fVar 2) (fCon (.int 3)))) (fOp2 (oSub) (fCon (.int 5)) (fVar 2)) (fCon (.int 2))) (fNil)))))
      [.scr (ns.map D.int), .loc 0, .int k, .und] 3 R (rngL 0 k) p2 q2 (fun d hd p q hp hq => by
        obtain ⟨j, rfl⟩ := rngL_mem hd
        by_cases c : k < 3
        · obtain ⟨v, p3, q3, hv, hp, hq, e⟩ := t_level (ns := ns) (R := R) (m := 5 - k) (by omega) (by omega) hp hq
          refine ⟨v, p3, q3, by unfold mostT; rw [if_pos c]; exact hv, hp, hq, ?_⟩
          have c' : (k : Int) < 3 := by omega
          simp [c', e]
        · obtain ⟨v, p3, q3, hv, hp, hq, e⟩ := t_level (ns := ns) (R := R) (m := 2) (by omega) (by omega) hp hq
          refine ⟨v, p3, q3, by unfold mostT; rw [if_neg c]; exact hv, hp, hq, ?_⟩
          have c' : ¬ (k : Int) < 3 := by omega
          simp [c', e]) hp hq
    rw [rngL_len] at hl
    refine ⟨vs, p3, q3, ⟨by omega, by omega, by rw [hl]; exact hv⟩, hp, hq, ?_⟩
    have ks : smallI k = true := by unfold smallI; simp; omega
    have kf : fit k = true := fit_of (by omega)
    unfold f__law_form fn b__law_form
    simp [e2, kRng1, ks, rngL_len, kf, e, end_rt]
  match i, i1 with
  | 0, _ => exact key 1 (by omega) (by omega) rfl
  | 1, _ => exact key 1 (by omega) (by omega) rfl
  | 2, _ => exact key 2 (by omega) (by omega) rfl
  | 3, _ => exact key 2 (by omega) (by omega) rfl
  | 4, _ => exact key 3 (by omega) (by omega) rfl
  | i + 5, h => simp at h; omega

end Sf
end

section
set_option Elab.async false
set_option maxRecDepth 100000
set_option linter.all false
set_option maxHeartbeats 4000000
namespace Sf
open PySem L2
/-! plain parts: pairs, plays -/
abbrev Pr := Int × Int
def prD (p : Pr) : D := .tup [.int p.1, .int p.2]
abbrev stD (st : List Pr) : D := .tup (st.map prD)
def plusM (p : Pr) (s : Int) : Pr := if s = 0 then (p.1 + 1, p.2) else (p.1, p.2 + 1)
def rwM (v : Lv) (p : Pr) : Option Int :=
  if p.2 < p.1 then (if (v.t ≤ p.1 ∧ v.l ≤ p.1 - p.2) ∨ v.c = some p.1 then some 0 else none) else (if (v.t ≤ p.2 ∧ v.l ≤ p.2 - p.1) ∨ v.c = some p.2 then some 1 else none)
@[simp] theorem x_isaInt {i : Int} {S : Sto} : oIsa [.int i, .glob (.ty "int")] S = some (.bl true, S) := rfl
@[simp] theorem x_isaIntB {i : Int} {S : Sto} : oIsa [.int i, .glob (.ty "bool")] S = some (.bl false, S) := rfl
@[simp] theorem x_isaTup {l : List D} {S : Sto} : oIsa [.tup l, .glob (.ty "tuple")] S = some (.bl true, S) := rfl
@[simp] theorem x_isaTup2 {l : List D} {S : Sto} : oIsa [.tup l, .tup [.glob (.ty "list"), .glob (.ty "tuple")]] S = some (.bl true, S) := rfl
@[simp] theorem x_isaLst2 {l : List D} {S : Sto} : oIsa [.lst l, .tup [.glob (.ty "list"), .glob (.ty "tuple")]] S = some (.bl true, S) := rfl
theorem low_Lv {v : Lv} : lowD 0 v.D = true := by obtain ⟨t, l, c⟩ := v; cases c <;> rfl
theorem low_form {vs : List Lv} : lowL 0 [formD vs] = true := by
  have := lowL_map Lv.D (fun _ => low_Lv) vs
  simp [lowL, lowD, this]
theorem x_all {bs : List Bool} {S : Sto} : oAll [.lst (bs.map D.bl)] S = some (.bl (bs.all id), S) := by
  show (match blsD (bs.map D.bl) with
      | some bs => some (D.bl (bs.all id), S)
      | none => none) = _
  rw [blsD_bls]
theorem all_true {α : Type} (l : List α) {S : Sto} : oAll [.lst (l.map fun _ => D.bl true)] S = some (.bl true, S) := by
  have := x_all (bs := l.map fun _ => true) (S := S)
  rw [List.map_map] at this
  rw [show (l.map fun _ => D.bl true) = l.map (D.bl ∘ fun _ => true) from rfl, this]
  simp
abbrev rowD (rs : List Int) : D := .lst (rs.map D.int)
abbrev rowT (rs : List Int) : D := .tup (rs.map D.int)
def Row (rs : List Int) : Prop := rs.length ≤ 200 ∧ ∀ r ∈ rs, r = 0 ∨ r = 1
theorem low_ints (rs : List Int) : lowL 0 (rs.map D.int) = true := lowL_map D.int (fun _ => rfl) rs
def afterM : List Lv → List Pr → Int → List Pr × Option Int
  | v :: vs, p :: ps, s => match rwM v (plusM p s) with
    | none => (plusM p s :: ps, none)
    | some w => match vs with
      | [] => (plusM p s :: ps, some w)
      | vs => ((0, 0) :: (afterM vs ps s).1, (afterM vs ps s).2)
  | _, ps, _ => (ps, none)
theorem ix_mid {A C : List D} {x : D} : ixD (A ++ x :: C) (A.length : Nat) = some x := by
  rw [ix_nn (by omega)]; simp
theorem ixn_mid {n : Nat} {A : List D} (h : A.length < n) : ixN n (A.length : Nat) = some A.length := by
  unfold ixN; rw [if_pos (by omega), if_pos (by omega)]; simp
theorem set_mid {A C : List D} {x y : D} : (A ++ x :: C).set A.length y = A ++ y :: C := by simp
theorem setO_mid {A C : List D} {x y : D} : setO (.loc 0) (.int (A.length : Nat)) y [.lst (A ++ x :: C)] = some [.lst (A ++ y :: C)] := by
  rw [x_setO]; simp [ixn_mid]
theorem low_prs (st : List Pr) : lowL 0 (st.map prD) = true := lowL_map prD (fun _ => rfl) st
theorem pl_pr {n : Nat} {p : Pr} : pl (n + 1) (prD p) = true := by simp [prD, pl, plL_cons, plL_nil, pl_int]
theorem pl_st {n : Nat} (st : List Pr) : plL (n + 1) (st.map prD) = true := plL_map prD (fun _ => pl_pr) st
theorem afterM_len : ∀ (vs : List Lv) (st : List Pr) (s : Int), (afterM vs st s).1.length = st.length
  | [], st, s => by cases st <;> simp [afterM]
  | v :: vs, [], s => by simp [afterM]
  | v :: vs, p :: ps, s => by
    unfold afterM
    cases rwM v (plusM p s) with
    | none => simp
    | some w =>
      cases vs with
      | nil => simp
      | cons v2 vs => simp [afterM_len (v2 :: vs) ps s]
structure Play where
  st : List Pr
  w : Option Int
  m : Int
def stepM (vs : List Lv) (x : Play) (s : Int) : Play := match x.w with
  | none => ⟨(afterM vs x.st s).1, (afterM vs x.st s).2, x.m + 1⟩
  | some _ => x
def start (vs : List Lv) : Play := ⟨List.replicate vs.length (0, 0), none, 0⟩
def playM (vs : List Lv) (rs : List Int) : Play := rs.foldl (stepM vs) (start vs)
theorem stepM_len {vs : List Lv} {x : Play} {s : Int} : (stepM vs x s).st.length = x.st.length := by
  unfold stepM; cases x.w with
  | none => simp [afterM_len]
  | some w => rfl
theorem fold_len {vs : List Lv} : ∀ (rs : List Int) (x : Play), (rs.foldl (stepM vs) x).st.length = x.st.length
  | [], x => rfl
  | s :: rs, x => by rw [List.foldl_cons, fold_len rs, stepM_len]
theorem rep_one (l : D) : ∀ n : Nat, (List.replicate n [l]).flatten = List.replicate n l
  | 0 => rfl
  | n + 1 => by rw [List.replicate_succ, List.flatten_cons, rep_one l n, List.replicate_succ]; rfl
theorem x_repT {d : D} {n : Nat} {S : Sto} (h1 : 1 ≤ n) (h2 : n ≤ 1000) : oMul false (.tup [d]) (.int n) S = some (.tup (List.replicate n d), S) := by
  show (bif decide ((n : Int) = 1) then some (D.tup [d], S) else bif true && true && decide ((2 : Int) ≤ n) && decide ((n : Int) ≤ 1000) then some (.tup (List.replicate (n : Int).toNat [d]).flatten, S) else none) = _
  by_cases h : n = 1
  · subst h; rfl
  · rw [decide_eq_false (show ¬ ((n : Int) = 1) by omega), decide_eq_true (show (2 : Int) ≤ n by omega), decide_eq_true (show (n : Int) ≤ 1000 by omega), Int.toNat_natCast, rep_one]; rfl
theorem low_form' {vs : List Lv} : lowD 0 (formD vs) = true := by show lowL 0 (vs.map Lv.D) = true; exact lowL_map Lv.D (fun _ => low_Lv) vs
theorem pl_oI {n : Nat} {w : Option Int} : pl n (oI w) = true := by cases w <;> cases n <;> rfl
theorem low_row {rs : List Int} {row : D} (hr : row = rowD rs ∨ row = rowT rs) : lowD 0 row = true := by rcases hr with rfl | rfl <;> exact low_ints rs
theorem low_fr {vs : List Lv} {rs : List Int} {row : D} (hr : row = rowD rs ∨ row = rowT rs) : lowL 0 [formD vs, row] = true := by
  simp only [lowL, low_form', low_row hr]; rfl

end Sf
end

section
set_option Elab.async false
set_option maxRecDepth 100000
set_option linter.all false
set_option maxHeartbeats 4000000
namespace Sf
open PySem L2
theorem cut_to {l : List Int} {k : Int} {S : Sto} (h1 : 0 ≤ k) (h2 : k ≤ l.length) (h3 : l.length ≤ 1000) : oCut false (rowD l) none (some k) S = some (rowD (l.take k.toNat), S) := by
  have e : cutD (l.map D.int) none (some k) = (l.take k.toNat).map D.int := by
    unfold cutD
    obtain ⟨n, rfl⟩ := Int.eq_ofNat_of_zero_le h1
    rw [HT.sIx_none, HT.sIx_nat, List.length_map, Nat.min_eq_left (by omega), List.drop_zero, Nat.sub_zero, ← List.map_take]; rfl
  show mkL false (cutD (l.map D.int) none (some k)) S = _
  rw [e, x_mkF, fit_of (by simp; omega)]; rfl
@[simp] theorem x_cut {m : Bool} {a : FE} {lo hi : FO} {env : En} {S : Sto} : fCut m a lo hi env S = (a env S).bind fun x S1 => (lo env S1).bind fun l S2 => (hi env S2).bind fun u S3 => outO (oCut m x l u S3) := rfl
@[simp] theorem x_nopart {env : En} {S : Sto} : fNoPart env S = .ok none S := rfl
@[simp] theorem x_part {f : FE} {env : En} {S : Sto} : fPart f env S = (f env S).bind fun x S1 => match x with
  | .int i => .ok (some i) S1
  | _ => .bad := rfl

end Sf
end

section
set_option Elab.async false
set_option maxRecDepth 100000
set_option linter.all false
set_option maxHeartbeats 4000000
namespace Sf
open PySem L2
/-! is_form -/
theorem t_is_count {i a b : Int} {S : Sto} : pureF f_is_count [.int i, .int a, .int b] S = .ok (.bl (decide (a ≤ i) && decide (i ≤ b))) S := by
  apply pure_eq
  · rfl
  · unfold f_is_count fn b_is_count
    by_cases h : a ≤ i <;> simp [h, end_rt]
theorem t_is_level {v : Lv} {S : Sto} (h : v.Ok) : pureF f_is_level [v.D] S = .ok (.bl true) S := by
  obtain ⟨h1, h2, h3, h4, h5⟩ := h
  obtain ⟨t, l, c⟩ := v
  simp only at h1 h2 h3 h4 h5
  cases c with
  | none =>
    apply pure_eq
    · rfl
    · unfold f_is_level fn b_is_level Lv.D
      simp [t_is_count, h1, h2, h3, h4, end_rt]
  | some c =>
    have h5 := h5 c rfl
    apply pure_eq
    · rfl
    · unfold f_is_level fn b_is_level Lv.D
      simp [t_is_count, h1, h2, h3, h4, h5.1, h5.2, end_rt]
theorem t_is_form {vs : List Lv} {S : Sto} (h : Form vs) : pureF f_is_form [formD vs] S = .ok (.bl true) S := by
  obtain ⟨h1, h2, h3⟩ := h
  refine pure_eq low_form ?_
  unfold f_is_form fn b_is_form
  have e := comp_map Lv.D (fun _ => D.bl true) (fCall (pureF f_is_level) (fCons (fVar 1) (fNil))) [formD vs, .und] 1 [] vs (fun a ha => by have := t_is_level (S := []) (h3 a ha); unfold Lv.D at this ⊢; simp [this])
  have f : fit vs.length = true := fit_of (by omega)
  have g1 : (1 : Int) ≤ vs.length := by omega
  have g2 : (vs.length : Int) ≤ 3 := by omega
  simp [g1, g2, f, e, all_true, end_rt]
theorem t_need_form {vs : List Lv} {S : Sto} (h : Form vs) : pureF f_need_form [formD vs] S = .ok .non S := by
  refine pure_eq low_form ?_
  unfold f_need_form fn b_need_form
  simp [t_is_form h]; rfl

end Sf
end

section
set_option Elab.async false
set_option maxRecDepth 100000
set_option linter.all false
set_option maxHeartbeats 4000000
namespace Sf
open PySem L2
/-! what raises; a def that may be handed a place -/
section
variable {env : En} {S : Sto} {α β : Type} {c : Nat}
@[simp] theorem x_raise : sRaise c env S = .xc c S := rfl
@[simp] theorem x_bindE {k : α → Sto → Out β} : (Out.exc c S : Out α).bind k = .exc c S := rfl
@[simp] theorem x_bindSE {k : α → Sto → SR} : (Out.exc c S : Out α).bindS k = .xc c S := rfl
@[simp] theorem x_bindNx {k : En → Sto → SR} : (SR.xc c S).bindN k = .xc c S := rfl
theorem end_xc {n : Nat} (h : S.length = n) : fnEnd false n (.xc c S) = .exc c S := by
  subst h
  show endX S.length c S = _
  unfold endX
  rw [show Nat.beq S.length S.length = true from Nat.beq_refl _]; rfl
end
theorem sTry_ok {cs : List Nat} {wh : Nat → D} {f : FS} {env : En} {S S' : Sto} {d : D} (h : f env S = .rt d S') : sTry cs wh f env S = .rt d S' := by unfold sTry; rw [h]
theorem sTry_xc {cs : List Nat} {wh : Nat → D} {f : FS} {env : En} {S S' : Sto} {c : Nat} (h : f env S = .xc c S') (hc : cs.contains c = true) : sTry cs wh f env S = .rt (wh c) S' := by unfold sTry; rw [h]; simp only; rw [hc]; rfl
theorem splitP {F : Fn} {ds : List D} {d : D} {S : Sto} (hl : lowL 0 ds = true) (h : pureF F ds S = .ok d S) : splitF F ds S = .ok d S := by rw [split_low hl]; exact h
theorem splitX {F : Fn} {ds : List D} {c : Nat} {S : Sto} (hl : lowL 0 ds = true) (h : F ds [] = .exc c []) : splitF F ds S = .exc c S := by
  rw [split_low hl]; unfold pureF; rw [hl, h]; rfl
theorem pureX {F : Fn} {ds : List D} {c : Nat} {S : Sto} (hl : lowL 0 ds = true) (h : F ds [] = .exc c []) : pureF F ds S = .exc c S := by
  unfold pureF; rw [hl, h]; rfl
theorem splitN {F : Fn} {ds : List D} {S : Sto} (hl : lowL 0 ds = false) : splitF F ds S = F ds S := by unfold splitF; rw [hl]; rfl
def xchk (r : Out D) (c : Nat) : Bool := match r with
  | .exc e [] => e == c
  | _ => false
theorem xchk_ok {r : Out D} {c : Nat} (h : xchk r c = true) : r = .exc c [] := by
  unfold xchk at h
  cases r with
  | exc e S =>
    cases S with
    | nil => rw [beq_iff_eq.mp h]
    | cons => cases h
  | ok => cases h
  | bad => cases h
theorem var_at {env : En} {i : Nat} {d : D} {S : Sto} (h : env[i]? = some d) (hn : d ≠ .und) : fVar i env S = .ok d S := by
  unfold fVar; rw [h]; cases d <;> first | rfl | exact absurd rfl hn

end Sf
end

section
set_option Elab.async false
set_option maxRecDepth 100000
set_option linter.all false
set_option maxHeartbeats 4000000
namespace Sf
open PySem L2
/-! small steps -/
theorem orFF {t t' : FT} {env : En} {S S1 S2 : Sto} (h : t env S = .ok false S1) (h' : t' env S1 = .ok false S2) : Sf.tOr t t' env S = .ok false S2 := by rw [x_or, h, x_bind, cond_false, h']
theorem andFF {t t' : FT} {env : En} {S S1 : Sto} (h : t env S = .ok false S1) : Sf.tAnd t t' env S = .ok false S1 := by rw [x_and, h, x_bind, cond_false]
theorem andTT {t t' : FT} {b : Bool} {env : En} {S S1 S2 : Sto} (h : t env S = .ok true S1) (h' : t' env S1 = .ok b S2) : Sf.tAnd t t' env S = .ok b S2 := by rw [x_and, h, x_bind, cond_true, h']
theorem valF {a : FE} {b : Bool} {env : En} {S S1 : Sto} (h : a env S = .ok (.bl b) S1) : tVal a env S = .ok b S1 := by rw [x_val, h, x_bind]
theorem op2F {o : Op2} {a b : FE} {env : En} {S S1 S2 S3 : Sto} {x y z : D} (ha : a env S = .ok x S1) (hb : b env S1 = .ok y S2) (ho : o x y S2 = some (z, S3)) : fOp2 o a b env S = .ok z S3 := by rw [x_op2, ha, x_bind, hb, x_bind, ho, x_outO]
theorem callF {F : Fn} {fs : FA} {env : En} {S S1 S2 : Sto} {ds : List D} {d : D} (h : fs env S = .ok ds S1) (hF : F ds S1 = .ok d S2) : fCall F fs env S = .ok d S2 := by rw [x_call, h, x_bind, hF]
theorem consF {a : FE} {fs : FA} {env : En} {S S1 S2 : Sto} {x : D} {xs : List D} (h : a env S = .ok x S1) (h' : fs env S1 = .ok xs S2) : fCons a fs env S = .ok (x :: xs) S2 := by rw [x_cons, h, x_bind, h', x_bind]
theorem fandT {a b : FE} {env : En} {S S1 S2 : Sto} {d : D} (h : a env S = .ok (.bl true) S1) (h' : b env S1 = .ok d S2) : fAnd a b env S = .ok d S2 := by rw [x_fand, h, x_bind]; exact h'
theorem sIf_no {t : FT} {f g : FS} {env : En} {S S' : Sto} (h : t env S = .ok false S') : sIf t f g env S = g env S' := by rw [x_sif, h]; rfl
theorem sIf_yes {t : FT} {f g : FS} {env : En} {S S' : Sto} (h : t env S = .ok true S') : sIf t f g env S = f env S' := by rw [x_sif, h]; rfl
theorem asgF {i : Nat} {a : FE} {env : En} {S S1 : Sto} {x : D} (h : a env S = .ok x S1) : sAsg i a env S = .nx (env.set i x) S1 := by rw [x_asg, h]; rfl
theorem ifT {t : FT} {a b : FE} {env : En} {S S1 : Sto} (h : t env S = .ok true S1) : fIf t a b env S = a env S1 := by rw [x_if, h]; rfl
theorem ifF {t : FT} {a b : FE} {env : En} {S S1 : Sto} (h : t env S = .ok false S1) : fIf t a b env S = b env S1 := by rw [x_if, h]; rfl
theorem oIne {w : Option Int} {S : Sto} (hw : ∀ k, w = some k → k = 0 ∨ k = 1) : oNe (oI w) (oI w) S = some (.bl false, S) := by
  cases w with
  | none => rfl
  | some k => rcases hw k rfl with rfl | rfl <;> rfl
theorem intNe {k : Int} {S : Sto} : oNe (.int k) (.int k) S = some (.bl false, S) := by rw [x_neI, decide_eq_true rfl]; rfl
theorem opNF0 {o : OpN} {fs : FA} {env : En} {S S1 S2 : Sto} {ds : List D} {d : D} (h : fs env S = .ok ds S1) (ho : o ds S1 = some (d, S2)) : fOpN o fs env S = .ok d S2 := by rw [x_opN, h, x_bind, ho, x_outO]

end Sf
end

section
set_option Elab.async false
set_option maxRecDepth 100000
set_option linter.all false
set_option maxHeartbeats 4000000
namespace Sf
open PySem L2
/-! texts of forms -/
open Builtin in
def lvText (v : Lv) : Str := (PySem.Str.ofString (toString v.t) ++ "/" ++ PySem.Str.ofString (toString v.l)) ++ (match v.c with
  | none => ""
  | some c => "-" ++ PySem.Str.ofString (toString c))
def fmText (vs : List Lv) : Str := Txt.join " " (vs.map lvText)
def allLv : List Lv := [1, 2, 3, 4, 5].flatMap fun t => [1, 2, 3].flatMap fun l => ⟨t, l, none⟩ :: ([1, 2, 3, 4, 5, 6, 7, 8, 9].filter fun c => decide (t ≤ c)).map fun c => ⟨t, l, some c⟩
theorem Lv.Ok.mem {v : Lv} (h : v.Ok) : v ∈ allLv := by
  obtain ⟨t, l, c⟩ := v
  obtain ⟨h1, h2, h3, h4, h5⟩ := h
  simp only at h1 h2 h3 h4 h5
  unfold allLv
  refine List.mem_flatMap.mpr ⟨t, by simp; omega, List.mem_flatMap.mpr ⟨l, by simp; omega, ?_⟩⟩
  cases c with
  | none => exact List.mem_cons_self
  | some c =>
    obtain ⟨c1, c2⟩ := h5 c rfl
    refine List.mem_cons_of_mem _ (List.mem_map.mpr ⟨c, List.mem_filter.mpr ⟨by simp; omega, decide_eq_true c1⟩, rfl⟩)
theorem lv_facts : (allLv.all fun v => chk (f_parsed_level [.str (lvText v)] []) v.D && Nat.ble (lvText v).length 10 && !((lvText v).cps.toList.contains 32) && Nat.ble 3 (lvText v).length) = true := by decide +kernel
theorem lv_len : (allLv.all fun v => Nat.ble (PySem.Str.ofString (toString v.t)).length 1 && Nat.ble (PySem.Str.ofString (toString v.l)).length 1 && (match v.c with
  | none => true
  | some c => Nat.ble (PySem.Str.ofString (toString c)).length 1 && Nat.blt c.natAbs.log2 1920) && Nat.blt v.t.natAbs.log2 1920 && Nat.blt v.l.natAbs.log2 1920) = true := by decide +kernel
theorem x_addS {a b : Str} {S : Sto} (h : a.length + b.length ≤ 1000) : oAdd false (.str a) (.str b) S = some (.str (a ++ b), S) := by
  show (bif fit (a.length + b.length) then some (D.str (a ++ b), S) else none) = _
  rw [fit_of (by omega)]; rfl
theorem str_len (a b : Str) : (a ++ b).length = a.length + b.length := by
  show (a.cps ++ b.cps).size = _
  rw [Array.size_append]; rfl
def lvE : FE := (fOp2 (oAdd false) (fOp2 (oAdd false) (fOp2 (oAdd false) (fOpN (oStr) (fCons (fVar 2) (fNil))) (fCon (.str "/"))) (fOpN (oStr) (fCons (fVar 3) (fNil)))) (fIf (tVal (fOp2 oIs (fVar 4) (fCon .non))) (fCon (.str "")) (fOp2 (oAdd false) (fCon (.str "-")) (fOpN (oStr) (fCons (fVar 4) (fNil))))))
theorem x_str {i : Int} {S : Sto} (h : Nat.blt i.natAbs.log2 1920 = true) : oStr [.int i] S = some (.str (PySem.Str.ofString (toString i)), S) := by
  unfold oStr
  simp only
  rw [h]; rfl
theorem ab_len {a b : Str} {n m : Nat} (h1 : a.length ≤ n) (h2 : b.length ≤ m) : (a ++ b).length ≤ n + m := by rw [str_len]; omega
theorem t_lvE {v : Lv} (h : v.Ok) {x0 x1 : D} {S : Sto} : lvE [x0, x1, .int v.t, .int v.l, oI v.c] S = .ok (.str (lvText v)) S := by
  have f := List.all_eq_true.mp lv_len v h.mem
  obtain ⟨t, l, c⟩ := v
  simp only [Bool.and_eq_true] at f
  obtain ⟨⟨⟨⟨f1, f2⟩, f3⟩, f4⟩, f5⟩ := f
  have f1 := Nat.le_of_ble_eq_true f1
  have f2 := Nat.le_of_ble_eq_true f2
  have s1 : (("/" : Str)).length ≤ 1 := by decide +kernel
  have s2 : (("-" : Str)).length ≤ 1 := by decide +kernel
  have s3 : (("" : Str)).length ≤ 0 := by decide +kernel
  have l1 := ab_len f1 s1
  have l2 := ab_len l1 f2
  have a1 := fun S => x_addS (a := PySem.Str.ofString (toString t)) (b := "/") (S := S) (by omega)
  have a2 := fun S => x_addS (a := PySem.Str.ofString (toString t) ++ "/") (b := PySem.Str.ofString (toString l)) (S := S) (by omega)
  unfold lvE lvText
  cases c with
  | none =>
    have a3 := fun S => x_addS (a := PySem.Str.ofString (toString t) ++ "/" ++ PySem.Str.ofString (toString l)) (b := "") (S := S) (by omega)
    exact op2F (op2F (op2F (opNF0 rfl (x_str f4)) rfl (a1 _)) (opNF0 rfl (x_str f5)) (a2 _)) (y := .str "") rfl (a3 _)
  | some c =>
    simp only [Bool.and_eq_true] at f3
    have f6 := Nat.le_of_ble_eq_true f3.1
    have l3 := ab_len s2 f6
    have a4 := fun S => x_addS (a := "-") (b := PySem.Str.ofString (toString c)) (S := S) (by omega)
    have a3 := fun S => x_addS (a := PySem.Str.ofString (toString t) ++ "/" ++ PySem.Str.ofString (toString l)) (b := "-" ++ PySem.Str.ofString (toString c)) (S := S) (by omega)
    refine op2F (op2F (op2F (opNF0 rfl (x_str f4)) rfl (a1 _)) (opNF0 rfl (x_str f5)) (a2 _)) (y := .str ("-" ++ PySem.Str.ofString (toString c))) ?_ (a3 _)
    rw [ifF (S1 := S) (by exact valF rfl)]
    exact op2F rfl (opNF0 rfl (x_str f3.2)) (a4 _)

end Sf
end

section
set_option Elab.async false
set_option maxRecDepth 100000
set_option linter.all false
set_option maxHeartbeats 4000000
namespace Sf
open PySem L2
/-! formatted, _law_text -/
def fmB : FS := (sExpr (fMethL mAppend (fVar 1) (fCons lvE (fNil))))
theorem t_fmB {v : Lv} (h : v.Ok) {x0 : D} {L : List D} (hl : L.length ≤ 100) : fmB [x0, .loc 0, .int v.t, .int v.l, oI v.c] [.lst L] = .nx [x0, .loc 0, .int v.t, .int v.l, oI v.c] [.lst (L ++ [.str (lvText v)])] := by
  have e := t_lvE h (x0 := x0) (x1 := .loc 0) (S := [.lst L])
  have f : fitS L.length = true := by unfold fitS; exact Nat.ble_eq_true_of_le (by omega)
  unfold fmB
  rw [x_expr]
  have m : fMethL mAppend (fVar 1) (fCons lvE (fNil)) [x0, .loc 0, .int v.t, .int v.l, oI v.c] [.lst L] = .ok .non [.lst (L ++ [.str (lvText v)])] := by
    unfold fMethL
    show (bif true then (fCons lvE (fNil) [x0, .loc 0, .int v.t, .int v.l, oI v.c] [.lst L]).bind fun xs S2 => outO (mAppend (.loc 0) xs S2) else Out.bad) = _
    rw [cond_true, consF e x_nil, x_bind]
    show outO (bif fitS L.length then some (D.non, [Ob.lst (L ++ [.str (lvText v)])]) else none) = _
    rw [f]; rfl
  rw [m]; rfl
theorem t_fmL {x0 : D} : ∀ (vs : List Lv) (L : List D) (a b c : D), (∀ v ∈ vs, v.Ok) → L.length + vs.length ≤ 100 →
    ∃ a' b' c', forL (unTup [2, 3, 4]) fmB (vs.map Lv.D) [x0, .loc 0, a, b, c] [.lst L] = .nx [x0, .loc 0, a', b', c'] [.lst (L ++ vs.map fun v => .str (lvText v))]
  | [], L, a, b, c, _, _ => ⟨a, b, c, by simp [forL]⟩
  | v :: vs, L, a, b, c, hv, hl => by
    simp only [List.length_cons] at hl
    obtain ⟨a', b', c', e⟩ := t_fmL (x0 := x0) vs (L ++ [.str (lvText v)]) (.int v.t) (.int v.l) (oI v.c) (fun w hw => hv w (by simp [hw])) (by simp; omega)
    refine ⟨a', b', c', ?_⟩
    rw [List.map_cons, forL_cons (env1 := [x0, .loc 0, .int v.t, .int v.l, oI v.c]) rfl, t_fmB (hv v (by simp)) (by omega)]
    show forL _ _ _ _ _ = _
    rw [e]
    simp
theorem strsD_map : ∀ ys : List Str, strsD (ys.map D.str) = some ys
  | [] => rfl
  | y :: ys => by
    rw [List.map_cons]
    unfold strsD
    rw [strsD_map ys]
theorem lvText_len {v : Lv} (h : v.Ok) : (lvText v).length ≤ 10 := by
  have f := List.all_eq_true.mp lv_facts v h.mem
  simp only [Bool.and_eq_true] at f
  exact Nat.le_of_ble_eq_true f.1.1.2
theorem sum_len : ∀ {vs : List Lv}, (∀ v ∈ vs, v.Ok) → ((vs.map lvText).map (·.length)).sum ≤ 10 * vs.length
  | [], _ => by simp
  | v :: vs, h => by
    have := lvText_len (h v (by simp))
    have := sum_len (vs := vs) fun w hw => h w (by simp [hw])
    simp only [List.map_cons, List.sum_cons, List.length_cons]
    omega
theorem t_formatted {vs : List Lv} {S : Sto} (h : Form vs) : pureF f_formatted [formD vs] S = .ok (.str (fmText vs)) S := by
  refine pure_eq low_form ?_
  obtain ⟨a, b, c, e⟩ := t_fmL (x0 := formD vs) vs [] .und .und .und h.2.2 (by have := h.2.1; simp; omega)
  rw [List.nil_append] at e
  unfold f_formatted fn b_formatted
  show fnEnd false 0 (sSeq _ (sSeq (sFor _ (unTup [2, 3, 4]) fmB) _) [formD vs, .und, .und, .und, .und] []) = _
  rw [sSeq_nx (e' := [formD vs, .loc 0, .und, .und, .und]) (S' := [.lst []]) (by rfl), sSeq_nx (e' := [formD vs, .loc 0, a, b, c]) (S' := [.lst (vs.map fun v => .str (lvText v))]) (by
    rw [x_for_]
    exact e)]
  have s1 : ((" " : Str)).length ≤ 1 := by decide +kernel
  have sl := sum_len h.2.2
  have hv := h.2.1
  have m : mJoin (.str " ") [.loc 0] [.lst (vs.map fun v => .str (lvText v))] = some (.str (fmText vs), [.lst (vs.map fun v => .str (lvText v))]) := by
    unfold mJoin
    simp only
    have e1 : lsR (.loc 0) [.lst (vs.map fun v => .str (lvText v))] = some ((vs.map lvText).map D.str) := by
      show some (vs.map fun v => D.str (lvText v)) = _
      rw [List.map_map]; rfl
    rw [e1]
    simp only
    rw [strsD_map]
    simp only
    rw [fit_of (by
      have : (vs.map lvText).length * ((" " : Str)).length ≤ 3 * 1 := Nat.mul_le_mul (by simp; omega) s1
      omega)]
    rfl
  have j : fMethS mJoin (fCon (.str " ")) (fCons (fVar 1) (fNil)) [formD vs, .loc 0, a, b, c] [.lst (vs.map fun v => .str (lvText v))] = .ok (.str (fmText vs)) [.lst (vs.map fun v => .str (lvText v))] := by
    unfold fMethS
    show outO (mJoin (.str " ") [.loc 0] [.lst (vs.map fun v => .str (lvText v))]) = _
    rw [m]; rfl
  rw [x_ret, j]
  rfl

end Sf
end

section
set_option Elab.async false
set_option maxRecDepth 100000
set_option linter.all false
set_option maxHeartbeats 4000000
namespace Sf
open PySem L2
/-! the law's own text -/
theorem sassoc (a b c : Str) : a ++ b ++ c = a ++ (b ++ c) := by
  show (⟨(a.cps ++ b.cps) ++ c.cps⟩ : Str) = ⟨a.cps ++ (b.cps ++ c.cps)⟩
  rw [Array.append_assoc]
theorem sempty (a : Str) : a ++ ("" : Str) = a := by
  have : (("" : Str)) = ⟨#[]⟩ := by decide +kernel
  rw [this]
  show (⟨a.cps ++ #[]⟩ : Str) = a
  rw [Array.append_empty]
theorem emptys (a : Str) : ("" : Str) ++ a = a := by
  have : (("" : Str)) = ⟨#[]⟩ := by decide +kernel
  rw [this]
  show (⟨#[] ++ a.cps⟩ : Str) = a
  rw [Array.empty_append]
theorem x_neS {a b : Str} {S : Sto} : oNe (.str a) (.str b) S = some (.bl (!decide (a = b)), S) := rfl
theorem x_eqS {a b : Str} {S : Sto} : oEq (.str a) (.str b) S = some (.bl (decide (a = b)), S) := rfl
def sepT (T : Str) : Str := if T = "" then "" else " "
def accT : Str → List Str → Str
  | T, [] => T
  | T, w :: ws => accT (T ++ sepT T ++ w) ws
theorem accT_join : ∀ (ws : List Str) (T : Str), T ≠ "" → (∀ w ∈ ws, w ≠ "") → accT T ws = Str.join " " (T :: ws)
  | [], T, _, _ => rfl
  | [w], T, hT, hw => by
    show T ++ sepT T ++ w = T ++ " " ++ w
    unfold sepT; rw [if_neg hT]
  | w :: w2 :: ws, T, hT, hw => by
    have ne : T ++ sepT T ++ w ≠ "" := fun h => by
      have := congrArg Str.length h
      rw [str_len, str_len] at this
      have e0 : (("" : Str)).length = 0 := by decide +kernel
      have : T.length = 0 := by omega
      refine hT ?_
      have e1 : T = ⟨#[]⟩ := by
        obtain ⟨c⟩ := T
        congr
        exact Array.eq_empty_of_size_eq_zero this
      rw [e1]; decide +kernel
    show accT (T ++ sepT T ++ w) (w2 :: ws) = T ++ " " ++ Str.join " " (w :: w2 :: ws)
    rw [accT_join (w2 :: ws) _ ne (fun x hx => hw x (by simp at hx ⊢; exact .inr hx))]
    show T ++ sepT T ++ w ++ " " ++ Str.join " " (w2 :: ws) = T ++ " " ++ (w ++ " " ++ Str.join " " (w2 :: ws))
    unfold sepT
    rw [if_neg hT]
    simp only [sassoc]

theorem lvText_ne {v : Lv} (h : v.Ok) : lvText v ≠ "" := fun e => by
  have f := List.all_eq_true.mp lv_facts v h.mem
  simp only [Bool.and_eq_true] at f
  have := Nat.le_of_ble_eq_true f.2
  rw [e] at this
  revert this
  decide +kernel
theorem acc_fm {vs : List Lv} (h : Form vs) : accT "" (vs.map lvText) = fmText vs := by
  cases vs with
  | nil => exact absurd h.1 (by simp)
  | cons v vs =>
    show accT ("" ++ sepT "" ++ lvText v) (vs.map lvText) = Txt.join " " (lvText v :: vs.map lvText)
    have e : ("" ++ sepT "" ++ lvText v : Str) = lvText v := by
      unfold sepT
      rw [if_pos rfl, sempty, emptys]
    rw [e, accT_join _ _ (lvText_ne (h.2.2 v (by simp))) fun w hw => by
      obtain ⟨u, hu, rfl⟩ := List.mem_map.mp hw
      exact lvText_ne (h.2.2 u (by simp [hu]))]
    exact (TL.join_eq _ _).symm

end Sf
end

section
set_option Elab.async false
set_option maxRecDepth 100000
set_option linter.all false
set_option maxHeartbeats 4000000
namespace Sf
open PySem L2
/-! _law_text -/
def ltB : FS := (sSeq (sAsg 1 (fOp2 (oAdd false) (fOp2 (oAdd false) (fOp2 (oAdd false) (fOp2 (oAdd false) (fVar 1) (fIf (tVal (fOp2 oNe (fVar 1) (fCon (.str "")))) (fCon (.str " ")) (fCon (.str "")))) (fOpN (oStr) (fCons (fVar 2) (fNil)))) (fCon (.str "/"))) (fOpN (oStr) (fCons (fVar 3) (fNil)))))
    (sAsg 1 (fOp2 (oAdd false) (fVar 1) (fIf (tVal (fOp2 oIs (fVar 4) (fCon .non))) (fCon (.str "")) (fOp2 (oAdd false) (fCon (.str "-")) (fOpN (oStr) (fCons (fVar 4) (fNil))))))))
theorem sep_len {T : Str} : (sepT T).length ≤ 1 := by
  unfold sepT
  split
  · decide +kernel
  · decide +kernel
theorem t_ltB {v : Lv} (h : v.Ok) {x0 : D} {T : Str} {S : Sto} (hT : T.length ≤ 100) : ltB [x0, .str T, .int v.t, .int v.l, oI v.c] S = .nx [x0, .str (T ++ sepT T ++ lvText v), .int v.t, .int v.l, oI v.c] S := by
  have f := List.all_eq_true.mp lv_len v h.mem
  obtain ⟨t, l, c⟩ := v
  simp only [Bool.and_eq_true] at f
  obtain ⟨⟨⟨⟨f1, f2⟩, f3⟩, f4⟩, f5⟩ := f
  have f1 := Nat.le_of_ble_eq_true f1
  have f2 := Nat.le_of_ble_eq_true f2
  have s1 : (("/" : Str)).length ≤ 1 := by decide +kernel
  have s2 : (("-" : Str)).length ≤ 1 := by decide +kernel
  have s3 : (("" : Str)).length ≤ 0 := by decide +kernel
  have l0 := ab_len hT (sep_len (T := T))
  have l1 := ab_len l0 f1
  have l2 := ab_len l1 s1
  have l3 := ab_len l2 f2
  have a0 := fun S => x_addS (a := T) (b := sepT T) (S := S) (by have := sep_len (T := T); omega)
  have a1 := fun S => x_addS (a := T ++ sepT T) (b := PySem.Str.ofString (toString t)) (S := S) (by omega)
  have a2 := fun S => x_addS (a := T ++ sepT T ++ PySem.Str.ofString (toString t)) (b := "/") (S := S) (by omega)
  have a3 := fun S => x_addS (a := T ++ sepT T ++ PySem.Str.ofString (toString t) ++ "/") (b := PySem.Str.ofString (toString l)) (S := S) (by omega)
  have sp : fIf (tVal (fOp2 oNe (fVar 1) (fCon (.str "")))) (fCon (.str " ")) (fCon (.str "")) [x0, .str T, .int t, .int l, oI c] S = .ok (.str (sepT T)) S := by
    unfold sepT
    by_cases hc : T = ""
    · rw [if_pos hc, ifF (S1 := S) (by exact valF (op2F rfl rfl (by rw [x_neS, decide_eq_true hc]; rfl)))]; rfl
    · rw [if_neg hc, ifT (S1 := S) (by exact valF (op2F rfl rfl (by rw [x_neS, decide_eq_false hc]; rfl)))]; rfl
  unfold ltB
  rw [sSeq_nx (e' := [x0, .str (T ++ sepT T ++ PySem.Str.ofString (toString t) ++ "/" ++ PySem.Str.ofString (toString l)), .int t, .int l, oI c]) (S' := S) (by
    exact asgF (op2F (op2F (op2F (op2F rfl sp (a0 _)) (opNF0 rfl (x_str f4)) (a1 _)) rfl (a2 _)) (opNF0 rfl (x_str f5)) (a3 _)))]
  unfold lvText
  cases c with
  | none =>
    have a4 := fun S => x_addS (a := T ++ sepT T ++ PySem.Str.ofString (toString t) ++ "/" ++ PySem.Str.ofString (toString l)) (b := "") (S := S) (by omega)
    have e : T ++ sepT T ++ PySem.Str.ofString (toString t) ++ "/" ++ PySem.Str.ofString (toString l) ++ "" = T ++ sepT T ++ (PySem.Str.ofString (toString t) ++ "/" ++ PySem.Str.ofString (toString l) ++ "") := by simp only [sassoc]
    rw [e] at a4
    exact asgF (op2F rfl (y := .str "") rfl (a4 _))
  | some c =>
    simp only [Bool.and_eq_true] at f3
    have f6 := Nat.le_of_ble_eq_true f3.1
    have l4 := ab_len s2 f6
    have a5 := fun S => x_addS (a := "-") (b := PySem.Str.ofString (toString c)) (S := S) (by omega)
    have a4 := fun S => x_addS (a := T ++ sepT T ++ PySem.Str.ofString (toString t) ++ "/" ++ PySem.Str.ofString (toString l)) (b := "-" ++ PySem.Str.ofString (toString c)) (S := S) (by omega)
    have e : T ++ sepT T ++ PySem.Str.ofString (toString t) ++ "/" ++ PySem.Str.ofString (toString l) ++ ("-" ++ PySem.Str.ofString (toString c)) = T ++ sepT T ++ (PySem.Str.ofString (toString t) ++ "/" ++ PySem.Str.ofString (toString l) ++ ("-" ++ PySem.Str.ofString (toString c))) := by simp only [sassoc]
    rw [e] at a4
    refine asgF (op2F rfl (y := .str ("-" ++ PySem.Str.ofString (toString c))) ?_ (a4 _))
    rw [ifF (S1 := S) (by exact valF rfl)]
    exact op2F rfl (opNF0 rfl (x_str f3.2)) (a5 _)
theorem t_ltL {x0 : D} : ∀ (vs : List Lv) (T : Str) (a b c : D), (∀ v ∈ vs, v.Ok) → T.length + 11 * vs.length ≤ 100 →
    ∃ a' b' c', forL (unTup [2, 3, 4]) ltB (vs.map Lv.D) [x0, .str T, a, b, c] [] = .nx [x0, .str (accT T (vs.map lvText)), a', b', c'] []
  | [], T, a, b, c, _, _ => ⟨a, b, c, rfl⟩
  | v :: vs, T, a, b, c, hv, hl => by
    simp only [List.length_cons] at hl
    have h1 := ab_len (a := T ++ sepT T) (b := lvText v) (ab_len (Nat.le_refl T.length) (sep_len (T := T))) (lvText_len (hv v (by simp)))
    obtain ⟨a', b', c', e⟩ := t_ltL (x0 := x0) vs (T ++ sepT T ++ lvText v) (.int v.t) (.int v.l) (oI v.c) (fun w hw => hv w (by simp [hw])) (by omega)
    refine ⟨a', b', c', ?_⟩
    rw [List.map_cons, forL_cons (env1 := [x0, .str T, .int v.t, .int v.l, oI v.c]) rfl, t_ltB (hv v (by simp)) (by omega)]
    exact e
theorem t_law_text {vs : List Lv} {S : Sto} (h : Form vs) : pureF f__law_text [formD vs] S = .ok (.str (fmText vs)) S := by
  refine pure_eq low_form ?_
  have s0 : (("" : Str)).length ≤ 0 := by decide +kernel
  obtain ⟨a, b, c, e⟩ := t_ltL (x0 := formD vs) vs "" .und .und .und h.2.2 (by have := h.2.1; omega)
  rw [acc_fm h] at e
  unfold f__law_text fn b__law_text
  show fnEnd false 0 (sSeq _ (sSeq (sFor _ (unTup [2, 3, 4]) ltB) _) [formD vs, .und, .und, .und, .und] []) = _
  rw [sSeq_nx (e' := [formD vs, .str "", .und, .und, .und]) (S' := []) (by rfl), sSeq_nx (e' := [formD vs, .str (fmText vs), a, b, c]) (S' := []) (by
    rw [x_for_]
    exact e)]
  rfl

end Sf
end

section
set_option Elab.async false
set_option maxRecDepth 100000
set_option linter.all false
set_option maxHeartbeats 4000000
namespace Sf
open PySem L2
/-! is_form of any ints -/
def okB (v : Lv) : Bool := (decide (1 ≤ v.t) && decide (v.t ≤ 5)) && ((decide (1 ≤ v.l) && decide (v.l ≤ 3)) && (match v.c with
  | none => true
  | some c => decide (v.t ≤ c) && decide (c ≤ 9)))
theorem okB_ok {v : Lv} : okB v = true ↔ v.Ok := by
  obtain ⟨t, l, c⟩ := v
  unfold okB Lv.Ok
  cases c <;> simp <;> omega
theorem t_is_levelB {v : Lv} {S : Sto} : pureF f_is_level [v.D] S = .ok (.bl (okB v)) S := by
  obtain ⟨t, l, c⟩ := v
  apply pure_eq
  · cases c <;> rfl
  · unfold f_is_level fn b_is_level Lv.D okB
    by_cases h1 : (decide (1 ≤ t) && decide (t ≤ 5)) = true
    · by_cases h2 : (decide (1 ≤ l) && decide (l ≤ 3)) = true
      · cases c with
        | none => simp [t_is_count, h1, h2, end_rt]
        | some c =>
          simp [t_is_count, h1, h2, end_rt]
      · cases c <;> simp [t_is_count, h1, h2, end_rt]
    · cases c <;> simp [t_is_count, h1, end_rt]
theorem t_is_formB {vs : List Lv} {S : Sto} (hl : vs.length ≤ 1000) : pureF f_is_form [formD vs] S = .ok (.bl (decide (1 ≤ vs.length) && (decide (vs.length ≤ 3) && vs.all okB))) S := by
  refine pure_eq low_form ?_
  unfold f_is_form fn b_is_form
  have e := comp_map Lv.D (fun v => D.bl (okB v)) (fCall (pureF f_is_level) (fCons (fVar 1) (fNil))) [formD vs, .und] 1 [] vs (fun a ha => by have := t_is_levelB (v := a) (S := []); unfold Lv.D at this ⊢; simp [this])
  have f : fit vs.length = true := fit_of (by omega)
  have x := fun S => x_all (bs := vs.map okB) (S := S)
  rw [List.map_map] at x
  have x' : ∀ S, oAll [.lst (vs.map fun v => D.bl (okB v))] S = some (.bl (vs.all okB), S) := fun S => by
    have := x S
    rw [List.all_map] at this
    exact this
  by_cases g1 : (1 : Int) ≤ vs.length
  · by_cases g2 : (vs.length : Int) ≤ 3
    · have g1' : 1 ≤ vs.length := by omega
      have g2' : vs.length ≤ 3 := by omega
      rw [decide_eq_true g1', decide_eq_true g2']
      simp [g1, g2, f, e, x', end_rt]
    · have : ¬ vs.length ≤ 3 := by omega
      simp [g1, g2, end_rt, this]
  · have : ¬ 1 ≤ vs.length := by omega
    simp [g1, end_rt, this]

end Sf
end

section
set_option Elab.async false
set_option maxRecDepth 100000
set_option linter.all false
set_option maxHeartbeats 4000000
namespace Sf
open PySem L2
/-! number_of any text -/
theorem x_inS {c : Nat} {z : Str} {S : Sto} : oInS (.str ⟨#[c]⟩) (.str z) S = some (.bl (decide (c ∈ z.cps.toList)), S) := by
  unfold oInS
  simp only
  rw [PySem.StrLaws.found_one z c]
theorem dig_all : ((("0123456789" : Str)).cps.toList.all fun c => (PySem.intText? ⟨#[c]⟩).isSome) = true := by decide +kernel
theorem t_num {a : Str} {S : Sto} (hl : a.length ≤ 1000) : ∃ i, pureF f_number_of [.str a] S = .ok (.int i) S := by
  have f : fit a.length = true := fit_of (by omega)
  have ln : ∀ S, oLen [.str a] S = some (.int a.length, S) := fun S => by
    show (bif fit a.length then some (D.int a.length, S) else none) = _
    rw [f]; rfl
  by_cases h1 : a.length = 1
  · obtain ⟨cs⟩ := a
    obtain ⟨c, rfl⟩ : ∃ c, cs = #[c] := Array.size_eq_one_iff.mp h1
    by_cases hc : c ∈ (("0123456789" : Str)).cps.toList
    · have hs := List.all_eq_true.mp dig_all c hc
      obtain ⟨n, hn⟩ := Option.isSome_iff_exists.mp hs
      refine ⟨n, pure_eq rfl ?_⟩
      have oi : ∀ S, oInt [.str ⟨#[c]⟩] S = some (.int n, S) := fun S => by
        unfold oInt
        simp only
        rw [show Nat.ble (Str.length ⟨#[c]⟩) 640 = true from rfl, hn]; rfl
      unfold f_number_of fn b_number_of
      show fnEnd false 0 (sRet _ [.str ⟨#[c]⟩] []) = _
      rw [x_ret, ifT (S1 := []) (by exact andTT (valF (op2F (opNF0 rfl (ln _)) rfl rfl)) (valF (op2F rfl rfl (by rw [x_inS, decide_eq_true hc])))), opNF0 (ds := [.str ⟨#[c]⟩]) (by rfl) (oi _)]
      rfl
    · refine ⟨0, pure_eq rfl ?_⟩
      unfold f_number_of fn b_number_of
      show fnEnd false 0 (sRet _ [.str ⟨#[c]⟩] []) = _
      rw [x_ret, ifF (S1 := []) (by exact andTT (valF (op2F (opNF0 rfl (ln _)) rfl rfl)) (valF (op2F rfl rfl (by rw [x_inS, decide_eq_false hc]))))]
      rfl
  · refine ⟨0, pure_eq rfl ?_⟩
    unfold f_number_of fn b_number_of
    show fnEnd false 0 (sRet _ [.str a] []) = _
    rw [x_ret, ifF (S1 := []) (by exact andFF (valF (op2F (opNF0 rfl (ln _)) rfl (by rw [x_eqI, decide_eq_false (by omega)]))))]
    rfl

end Sf
end

section
set_option Elab.async false
set_option maxRecDepth 100000
set_option linter.all false
set_option maxHeartbeats 4000000
namespace Sf
open PySem L2
/-! parsed_level of any word -/
theorem part_len (a b : Str) : (Txt.partition a b).1.length ≤ a.length ∧ (Txt.partition a b).2.2.length ≤ a.length := by
  unfold Txt.partition
  split
  · exact ⟨le_strSub _ _ _, le_strSub _ _ _⟩
  · exact ⟨Nat.le_refl _, Nat.zero_le _⟩
theorem x_mpart {a b : Str} {S : Sto} (hb : (b.length == 0) = false) (ha : a.length ≤ 1000) : mPart (.str a) [.str b] S = some (.tup [.str (Txt.partition a b).1, .str (Txt.partition a b).2.1, .str (Txt.partition a b).2.2], S) := by
  unfold mPart
  simp only
  rw [hb, fit_of (by omega)]; rfl
theorem methS_run {g : OpM} {fo : FE} {fs : FA} {env : En} {S : Sto} {a : Str} {ds : List D} {d : D} (ho : fo env S = .ok (.str a) S) (hs : fs env S = .ok ds S) (hg : g (.str a) ds S = some (d, S)) : fMethS g fo fs env S = .ok d S := by
  unfold fMethS
  rw [ho, x_bind]
  show (fs env S).bind (fun xs S2 => outO (g (.str a) xs S2)) = _
  rw [hs, x_bind, hg]; rfl
theorem t_parsed {a : Str} {S : Sto} (hl : a.length ≤ 1000) : ∃ v : Lv, pureF f_parsed_level [.str a] S = .ok v.D S := by
  have p1 := part_len a "/"
  have p2 := part_len (Txt.partition a "/").2.2 "-"
  have m1 := x_mpart (a := a) (b := "/") (S := []) (by decide +kernel) hl
  have m2 := x_mpart (a := (Txt.partition a "/").2.2) (b := "-") (S := []) (by decide +kernel) (by omega)
  obtain ⟨i, e1⟩ := t_num (a := (Txt.partition a "/").1) (S := []) (by omega)
  obtain ⟨j, e2⟩ := t_num (a := (Txt.partition (Txt.partition a "/").2.2 "-").1) (S := []) (by omega)
  obtain ⟨k, e3⟩ := t_num (a := (Txt.partition (Txt.partition a "/").2.2 "-").2.2) (S := []) (by omega)
  generalize (Txt.partition a "/").1 = A at *
  generalize (Txt.partition a "/").2.1 = B at *
  generalize hC : (Txt.partition a "/").2.2 = C at *
  generalize (Txt.partition C "-").1 = A2 at *
  generalize (Txt.partition C "-").2.1 = B2 at *
  generalize (Txt.partition C "-").2.2 = C2 at *
  have s1 : sAsgT [1, 2, 3] (fMethS mPart (fVar 0) (fCons (fCon (.str "/")) (fNil))) [.str a, .und, .und, .und, .und, .und, .und] [] = .nx [.str a, .str A, .str B, .str C, .und, .und, .und] [] := by
    rw [x_asgT, methS_run (a := a) rfl (ds := [.str "/"]) (by rfl) m1]; rfl
  have s2 : sAsgT [4, 5, 6] (fMethS mPart (fVar 3) (fCons (fCon (.str "-")) (fNil))) [.str a, .str A, .str B, .str C, .und, .und, .und] [] = .nx [.str a, .str A, .str B, .str C, .str A2, .str B2, .str C2] [] := by
    rw [x_asgT, methS_run (a := C) rfl (ds := [.str "-"]) (by rfl) m2]; rfl
  by_cases hB : B2 = ""
  · refine ⟨⟨i, j, none⟩, pure_eq rfl ?_⟩
    unfold f_parsed_level fn b_parsed_level
    show fnEnd false 0 (sSeq _ (sSeq _ _) [.str a, .und, .und, .und, .und, .und, .und] []) = _
    rw [sSeq_nx s1, sSeq_nx s2, x_ret, x_tup, consF (x := .int i) (by exact callF rfl e1) (consF (x := .int j) (by exact callF rfl e2) (consF (x := .non) (by
      rw [ifF (S1 := []) (by exact valF (op2F rfl rfl (by rw [x_neS, decide_eq_true hB]; rfl)))]; rfl) x_nil))]
    rfl
  · refine ⟨⟨i, j, some k⟩, pure_eq rfl ?_⟩
    unfold f_parsed_level fn b_parsed_level
    show fnEnd false 0 (sSeq _ (sSeq _ _) [.str a, .und, .und, .und, .und, .und, .und] []) = _
    rw [sSeq_nx s1, sSeq_nx s2, x_ret, x_tup, consF (x := .int i) (by exact callF rfl e1) (consF (x := .int j) (by exact callF rfl e2) (consF (x := .int k) (by
      rw [ifT (S1 := []) (by exact valF (op2F rfl rfl (by rw [x_neS, decide_eq_false hB]; rfl)))]
      exact callF rfl e3) x_nil))]
    rfl

end Sf
end

section
set_option Elab.async false
set_option maxRecDepth 100000
set_option linter.all false
set_option maxHeartbeats 4000000
namespace Sf
open PySem L2
/-! parse_form of any text -/
theorem tnotF {t : FT} {b : Bool} {env : En} {S S1 : Sto} (h : t env S = .ok b S1) : Sf.tNot t env S = .ok (!b) S1 := by rw [x_not, h, x_bind]
theorem orT {t t' : FT} {env : En} {S S1 : Sto} (h : t env S = .ok true S1) : Sf.tOr t t' env S = .ok true S1 := by rw [x_or, h, x_bind, cond_true]
theorem orFb {t t' : FT} {b : Bool} {env : En} {S S1 S2 : Sto} (h : t env S = .ok false S1) (h' : t' env S1 = .ok b S2) : Sf.tOr t t' env S = .ok b S2 := by rw [x_or, h, x_bind, cond_false, h']
theorem pickC_run {Fs : List Fn} {fi : FE} {fs : FA} {env : En} {S : Sto} {k : Nat} {F : Fn} {ds : List D} (hi : fi env S = .ok (.int k) S) (hF : Fs[k]? = some F) (hs : fs env S = .ok ds S) : fPickC Fs fi fs env S = F ds S := by
  unfold fPickC
  rw [hi, x_bind]
  simp only
  rw [decide_eq_true (show (0 : Int) ≤ k by omega), cond_true, Int.toNat_natCast, hF]
  simp only
  rw [hs, x_bind]
theorem join_mem (y : Str) : ∀ {ws : List Str} {w : Str}, w ∈ ws → w.length ≤ (Str.join y ws).length
  | [x], w, h => by
    rcases List.mem_singleton.mp h with rfl
    exact Nat.le_refl _
  | x :: z :: r, w, h => by
    show _ ≤ (x ++ y ++ Str.join y (z :: r)).length
    rw [str_len, str_len]
    rcases List.mem_cons.mp h with rfl | h
    · omega
    · have := join_mem y h; omega
theorem join_cnt {y : Str} (hy : 1 ≤ y.length) : ∀ ws : List Str, ws.length ≤ (Str.join y ws).length + 1
  | [] => Nat.zero_le _
  | [x] => by simp
  | x :: z :: r => by
    have := join_cnt hy (z :: r)
    show _ ≤ (x ++ y ++ Str.join y (z :: r)).length + 1
    rw [str_len, str_len]; simp only [List.length_cons] at this ⊢; omega
noncomputable def prLv (a : Str) : Lv := if h : a.length ≤ 1000 then Classical.choose (t_parsed (S := []) h) else ⟨0, 0, none⟩
theorem prLv_ok {a : Str} (h : a.length ≤ 1000) : pureF f_parsed_level [.str a] [] = .ok (prLv a).D [] := by
  unfold prLv; rw [dif_pos h]; exact Classical.choose_spec (t_parsed (S := []) h)
noncomputable def pfV (a : Str) : List Lv := (Txt.split a " ").map prLv
theorem one_sp : ((" " : Str)).length = 1 := by decide +kernel
theorem split_cnt (a : Str) : (Txt.split a " ").length ≤ a.length + 1 := by
  have := join_cnt (y := " ") (by rw [one_sp]; omega) (Txt.split a " ")
  rw [PySem.StrLaws.join_split] at this; exact this
theorem split_word {a w : Str} (h : w ∈ Txt.split a " ") : w.length ≤ a.length := by
  have := join_mem " " h
  rw [PySem.StrLaws.join_split] at this; exact this
theorem okF_form {vs : List Lv} : (decide (1 ≤ vs.length) && (decide (vs.length ≤ 3) && vs.all okB)) = true ↔ Form vs := by
  unfold Form
  simp [okB_ok]
theorem pf_run {a : Str} (hl : a.length ≤ 900) :
    (Form (pfV a) ∧ fmText (pfV a) = a ∧ f_parse_form [.str a] [] = .ok (formD (pfV a)) []) ∨ (¬ (Form (pfV a) ∧ fmText (pfV a) = a) ∧ f_parse_form [.str a] [] = .exc 6 []) := by
  have sc := split_cnt a
  have sp : fMethS mSplit (fVar 0) (fCons (fCon (.str " ")) (fNil)) [.str a, .und, .und] [] = .ok (.lst ((Txt.split a " ").map D.str)) [] :=
    methS_run (a := a) rfl (ds := [.str " "]) (by rfl) (by
      show (bif !(((" " : Str)).length == 0) && fit (a.length + 2) then mkL false ((Txt.split a " ").map D.str) [] else none) = _
      rw [one_sp, fit_of (by omega), x_mkF, fit_of (by simp; omega)]; rfl)
  have cm := comp_map D.str (fun w => (prLv w).D) (fCall (pureF f_parsed_level) (fCons (fVar 2) (fNil))) [.str a, .und, .und] 2 [] (Txt.split a " ") (fun w hw => callF (consF rfl x_nil) (prLv_ok (by have := split_word hw; omega)))
  have e1 : fComp false (iSq (fMethS mSplit (fVar 0) (fCons (fCon (.str " ")) (fNil)))) (tgName 2) (tYesF) (fCall (pureF f_parsed_level) (fCons (fVar 2) (fNil))) [2] [.str a, .und, .und] [] = .ok (.lst ((pfV a).map Lv.D)) [] := by
    rw [x_comp, x_iSq, sp, x_bind]
    show (bif fit ((Txt.split a " ").map D.str).length then (match compL (tgName 2) tYesF _ [.str a, .und, .und] ((Txt.split a " ").map D.str) [] with
      | .ok xs S2 => bif false then Out.ok (D.loc S2.length) (S2 ++ [Ob.lst xs]) else Out.ok (D.lst xs) S2
      | _ => Out.bad) else .bad) = _
    rw [List.length_map, fit_of (by omega), cond_true, cm]
    unfold pfV; rw [List.map_map]; rfl
  have hn : (pfV a).length ≤ 1000 := by unfold pfV; rw [List.length_map]; omega
  have fb := fun S => t_is_formB (vs := pfV a) (S := S) hn
  generalize pfV a = vs at *
  have s1 : ∀ rest, f_parse_form = fn false 3 (sSeq (sIf (tNot (tVal (fOpN oIsa (fCons (fVar 0) (fCons (fCon (.glob (.ty "str"))) (fNil)))))) (sRaise 6) (sSkip)) rest) → True := fun _ _ => trivial
  by_cases ok : (decide (1 ≤ vs.length) && (decide (vs.length ≤ 3) && vs.all okB)) = true
  · have hf := okF_form.mp ok
    rw [ok] at fb
    have tf : tVal (fOp2 oNe (fCall (pureF f_formatted) (fCons (fVar 1) (fNil))) (fVar 0)) [.str a, formD vs, .und] [] = .ok (!decide (fmText vs = a)) [] := valF (op2F (callF (consF rfl x_nil) (t_formatted hf)) rfl x_neS)
    have tt : Sf.tOr (tNot (tVal (fCall (pureF f_is_form) (fCons (fVar 1) (fNil))))) (tVal (fOp2 oNe (fCall (pureF f_formatted) (fCons (fVar 1) (fNil))) (fVar 0))) [.str a, formD vs, .und] [] = .ok (!decide (fmText vs = a)) [] :=
      orFb (tnotF (b := true) (valF (callF (consF rfl x_nil) (fb [])))) tf
    by_cases hc : fmText vs = a
    · refine .inl ⟨hf, hc, ?_⟩
      rw [decide_eq_true hc] at tt
      unfold f_parse_form fn b_parse_form
      show fnEnd false 0 (sSeq _ (sSeq _ _) [.str a, .und, .und] []) = _
      rw [sSeq_nx (e' := [.str a, .und, .und]) (S' := []) (by rfl), sSeq_nx (e' := [.str a, formD vs, .und]) (S' := []) (by exact asgF (opNF0 (consF e1 x_nil) rfl)), sSeq_nx (e' := [.str a, formD vs, .und]) (S' := []) (by rw [sIf_no tt]; rfl)]
      rfl
    · refine .inr ⟨fun h => hc h.2, ?_⟩
      rw [decide_eq_false hc] at tt
      unfold f_parse_form fn b_parse_form
      show fnEnd false 0 (sSeq _ (sSeq _ _) [.str a, .und, .und] []) = _
      rw [sSeq_nx (e' := [.str a, .und, .und]) (S' := []) (by rfl), sSeq_nx (e' := [.str a, formD vs, .und]) (S' := []) (by exact asgF (opNF0 (consF e1 x_nil) rfl)), x_seq, sIf_yes tt]
      rfl
  · refine .inr ⟨fun h => ok (okF_form.mpr h.1), ?_⟩
    rw [Bool.not_eq_true] at ok
    rw [ok] at fb
    have tt : Sf.tOr (tNot (tVal (fCall (pureF f_is_form) (fCons (fVar 1) (fNil))))) (tVal (fOp2 oNe (fCall (pureF f_formatted) (fCons (fVar 1) (fNil))) (fVar 0))) [.str a, formD vs, .und] [] = .ok true [] :=
      orT (tnotF (b := false) (valF (callF (consF rfl x_nil) (fb []))))
    unfold f_parse_form fn b_parse_form
    show fnEnd false 0 (sSeq _ (sSeq _ _) [.str a, .und, .und] []) = _
    rw [sSeq_nx (e' := [.str a, .und, .und]) (S' := []) (by rfl), sSeq_nx (e' := [.str a, formD vs, .und]) (S' := []) (by exact asgF (opNF0 (consF e1 x_nil) rfl)), x_seq, sIf_yes tt]
    rfl
/-! the law's questions -/
theorem ask_any {k : Nat} {F : Fn} {d e : D} (hF : ([splitF f_format_form, splitF f_parse_form] : List Fn)[k]? = some F) (hd : d ≠ .und) (hl : lowL 0 [d] = true) (h : F [d] [] = .ok e []) {S : Sto} : splitF f__law_ask [.int k, d] S = .ok e S := by
  have hl' : lowL 0 [.int k, d] = true := by simp only [lowL, Bool.and_true] at hl ⊢; rw [hl]; rfl
  refine splitP hl' (pure_eq hl' ?_)
  unfold f__law_ask fn b__law_ask
  show fnEnd false 0 (sTry [0, 6] whD _ [.int k, d, .und] []) = _
  rw [sTry_ok (d := e) (S' := []) (by
    rw [x_ret, pickC_run (k := k) rfl hF (consF (var_at (i := 1) (env := [.int k, d, .und]) rfl hd) x_nil), h]; rfl)]
  exact end_rt rfl
theorem ask_anyX {k c : Nat} {F : Fn} {d : D} (hF : ([splitF f_format_form, splitF f_parse_form] : List Fn)[k]? = some F) (hd : d ≠ .und) (hl : lowL 0 [d] = true) (hc : c = 0 ∨ c = 6) (h : F [d] [] = .exc c []) {S : Sto} : splitF f__law_ask [.int k, d] S = .ok (whD c) S := by
  have hl' : lowL 0 [.int k, d] = true := by simp only [lowL, Bool.and_true] at hl ⊢; rw [hl]; rfl
  refine splitP hl' (pure_eq hl' ?_)
  unfold f__law_ask fn b__law_ask
  show fnEnd false 0 (sTry [0, 6] whD _ [.int k, d, .und] []) = _
  rw [sTry_xc (c := c) (S' := []) (by
    rw [x_ret, pickC_run (k := k) rfl hF (consF (var_at (i := 1) (env := [.int k, d, .und]) rfl hd) x_nil), h]; rfl) (by rcases hc with rfl | rfl <;> rfl)]
  exact end_rt rfl
theorem ask1 {a : Str} (hl : a.length ≤ 900) : (∃ vs, Form vs ∧ fmText vs = a ∧ ∀ S, splitF f__law_ask [.int 1, .str a] S = .ok (formD vs) S) ∨ ∀ S, splitF f__law_ask [.int 1, .str a] S = .ok (whD 6) S := by
  rcases pf_run hl with ⟨h1, h2, h3⟩ | ⟨h1, h3⟩
  · exact .inl ⟨_, h1, h2, fun S => ask_any (k := 1) rfl (fun h => by cases h) rfl (splitP rfl (pure_eq rfl h3))⟩
  · exact .inr fun S => ask_anyX (k := 1) rfl (fun h => by cases h) rfl (.inr rfl) (splitX rfl h3)
theorem oI_inj {c d : Option Int} (h : oI c = oI d) : c = d := by
  cases c <;> cases d <;> simp at h
  · rfl
  · rw [h]
theorem lvD_inj {v w : Lv} (h : v.D = w.D) : v = w := by
  obtain ⟨t, l, c⟩ := v
  obtain ⟨t', l', c'⟩ := w
  unfold Lv.D at h
  simp only [D.tup.injEq, List.cons.injEq, D.int.injEq, and_true] at h
  obtain ⟨rfl, rfl, h⟩ := h
  rw [oI_inj h]
theorem prLv_text {v : Lv} (h : v.Ok) : prLv (lvText v) = v := by
  have f := List.all_eq_true.mp lv_facts v h.mem
  simp only [Bool.and_eq_true] at f
  have e := chk_ok f.1.1.1
  have e2 : pureF f_parsed_level [.str (lvText v)] [] = .ok v.D [] := pure_eq rfl e
  rw [prLv_ok (by have := lvText_len h; omega)] at e2
  injection e2 with e2
  exact lvD_inj e2
theorem sp_signs : TL.tl " " = [32] := by decide +kernel
theorem pfV_text {vs : List Lv} (h : Form vs) : pfV (fmText vs) = vs := by
  unfold pfV fmText
  have hne : vs.map lvText ≠ [] := fun e => by
    have := List.map_eq_nil_iff.mp e
    rw [this] at h; exact absurd h.1 (by simp)
  rw [TL.split_join sp_signs (by decide +kernel) hne (fun p hp => by
    obtain ⟨v, hv, rfl⟩ := List.mem_map.mp hp
    have f := List.all_eq_true.mp lv_facts v (h.2.2 v hv).mem
    simp only [Bool.and_eq_true, Bool.not_eq_true'] at f
    intro hm
    have := f.1.2
    rw [List.contains_iff_mem.mpr hm] at this
    cases this), List.map_map]
  have : ∀ v ∈ vs, (prLv ∘ lvText) v = id v := fun v hv => prLv_text (h.2.2 v hv)
  rw [List.map_congr_left this, List.map_id]
theorem join_le (y : Str) : ∀ ws : List Str, (Str.join y ws).length ≤ (ws.map (·.length)).sum + ws.length * y.length
  | [] => by
    show (("" : Str)).length ≤ _
    rw [show (("" : Str)).length = 0 from by decide +kernel]; omega
  | [x] => by
    show x.length ≤ _
    simp
  | x :: z :: r => by
    have := join_le y (z :: r)
    show (x ++ y ++ Str.join y (z :: r)).length ≤ _
    rw [str_len, str_len]
    simp only [List.map_cons, List.sum_cons, List.length_cons, Nat.add_mul, Nat.one_mul] at this ⊢
    omega
theorem fm_len {vs : List Lv} (h : Form vs) : (fmText vs).length ≤ 40 := by
  unfold fmText
  rw [TL.join_eq]
  have h1 := join_le " " (vs.map lvText)
  have h2 := sum_len h.2.2
  have h3 := h.2.1
  rw [one_sp, List.length_map] at h1
  omega
theorem ask1_fm {vs : List Lv} (h : Form vs) {S : Sto} : splitF f__law_ask [.int 1, .str (fmText vs)] S = .ok (formD vs) S := by
  have hl := fm_len h
  have e := pfV_text h
  rcases pf_run (a := fmText vs) (by omega) with ⟨h1, h2, h3⟩ | ⟨h1, h3⟩
  · rw [e] at h3
    exact ask_any (k := 1) rfl (fun h => by cases h) rfl (splitP rfl (pure_eq rfl h3))
  · rw [e] at h1
    exact absurd ⟨h, rfl⟩ h1
theorem ask0_fm {vs : List Lv} (h : Form vs) {S : Sto} : splitF f__law_ask [.int 0, formD vs] S = .ok (.str (fmText vs)) S := by
  refine ask_any (k := 0) rfl (fun h => by cases h) low_form (splitP low_form (pure_eq low_form ?_))
  unfold f_format_form fn b_format_form
  show fnEnd false 0 (sSeq _ _ [formD vs] []) = _
  rw [sSeq_nx (e' := [formD vs]) (S' := []) (by rw [x_expr, callF (consF rfl x_nil) (t_need_form h)]; rfl), x_ret, callF (consF rfl x_nil) (t_formatted h)]
  rfl

end Sf
end

section
set_option Elab.async false
set_option maxRecDepth 100000
set_option linter.all false
set_option maxHeartbeats 4000000
namespace Sf
open PySem L2
/-! the law -/
theorem eqv_whD {c : Nat} (hc : c = 0 ∨ c = 6) : ∃ p, D.py (whD c) = some p ∧ SeqAt.shaped p = true ∧ PyData.eqv p p = true := by
  rcases hc with rfl | rfl
  · exact ⟨_, rfl, by decide +kernel, by decide +kernel⟩
  · exact ⟨_, rfl, by decide +kernel, by decide +kernel⟩
theorem neWh {S : Sto} : oNe (whD 6) (.tup [.str "raised", .int 6]) S = some (.bl false, S) := by
  obtain ⟨p, h1, h2, h3⟩ := eqv_whD (c := 6) (.inr rfl)
  unfold oNe
  rw [eqB_gen (x := whD 6) (y := .tup [.str "raised", .int 6]) (p := p) (q := p) h1 h1 h2 h2, h3]; rfl
theorem pl_lv {n : Nat} {v : Lv} : pl (n + 1) v.D = true := by
  unfold Lv.D; simp [pl, plL_cons, plL_nil, pl_int, pl_oI]
theorem pl_form {n : Nat} {vs : List Lv} : pl (n + 2) (formD vs) = true := by
  show plL (n + 1) (vs.map Lv.D) = true
  exact plL_map Lv.D (fun _ => pl_lv) vs
theorem neForm {vs : List Lv} {S : Sto} : ∃ b, oNe (formD vs) (.tup [.str "raised", .int 6]) S = some (.bl b, S) := by
  obtain ⟨p, h1, h2, h3⟩ := pl_ok 2 (formD vs) pl_form
  obtain ⟨q, k1, k2, k3⟩ := eqv_whD (c := 6) (.inr rfl)
  refine ⟨!PyData.eqv p q, ?_⟩
  unfold oNe
  rw [eqB_gen (x := formD vs) (y := .tup [.str "raised", .int 6]) (p := p) (q := q) h1 k1 (by unfold SeqAt.shaped; rw [h2]; simpa using Nat.le_trans h3 (by omega)) k2]
def k12B : FS := (sSeq (sAsg 5 (fCall f__law_draw (fCons (fVar 0) (fCons (fVar 1) (fCons (fOp2 (oAdd false) (fOpN oLen (fCons (fVar 3) (fNil))) (fCon (.int 1))) (fNil))))))
    (sSeq (sAsg 6 (fCall f__law_pick (fCons (fVar 0) (fCons (fVar 1) (fCons (fLst false (fCons (fCon (.str "")) (fCons (fCon (.str "0")) (fCons (fCon (.str "1")) (fCons (fCon (.str "/")) (fCons (fCon (.str "-")) (fCons (fCon (.str " ")) (fCons (fCon (.str "2")) (fCons (fCon (.str "5")) (fCons (fCon (.str "x")) (fNil))))))))))) (fNil))))))
    (sSeq (sAsg 7 (fOp2 (oAdd false) (fOp2 (oAdd false) (fCutS (fVar 3) (fNoPart) (fPart (fVar 5))) (fVar 6)) (fCutS (fVar 3) (fPart (fOp2 (oAdd false) (fVar 5) (fCall f__law_draw (fCons (fVar 0) (fCons (fVar 1) (fCons (fCon (.int 2)) (fNil))))))) (fNoPart))))
    (sSeq (sAsg 8 (fCall (splitF f__law_ask) (fCons (fCon (.int 1)) (fCons (fVar 7) (fNil)))))
    (sIf (Sf.tAnd (tVal (fOp2 oNe (fVar 8) (fTup (fCons (fCon (.str "raised")) (fCons (fCon (.int 6)) (fNil)))))) (Sf.tOr (tVal (fOp2 oIsN (fCall (pureF f_is_form) (fCons (fVar 8) (fNil))) (fCon (.bl true)))) (tVal (fOp2 oNe (fCall (pureF f__law_text) (fCons (fVar 8) (fNil))) (fVar 7))))) (sRet (fCon (.bl false))) (sSkip))))))
def chars9 : List Str := ["", "0", "1", "/", "-", " ", "2", "5", "x"]
theorem chars_len : (chars9.all fun c => Nat.ble c.length 1) = true := by decide +kernel
theorem x_cutS {a : FE} {lo hi : FO} {env : En} {S S1 S2 S3 : Sto} {z : Str} {l u : Option Int} (ha : a env S = .ok (.str z) S1) (hl : lo env S1 = .ok l S2) (hu : hi env S2 = .ok u S3) (hz : z.length ≤ 1000) : fCutS a lo hi env S = .ok (.str (L2.cutS z l u)) S3 := by
  unfold fCutS
  rw [ha, x_bind, hl, x_bind, hu, x_bind]
  show outO (bif fit z.length then some (D.str (L2.cutS z l u), S3) else none) = _
  rw [fit_of (by omega)]; rfl
theorem partF {f : FE} {env : En} {S S1 : Sto} {i : Int} (h : f env S = .ok (.int i) S1) : fPart f env S = .ok (some i) S1 := by rw [x_part, h]; rfl
section
variable {ns : List Int} {vs : List Lv}
abbrev scD (ns : List Int) : D := .scr (ns.map D.int)
theorem k12_step (hv : Form vs) {p q : Int} (hp : 0 ≤ p) (hq : 0 ≤ q) (k a5 a6 a7 a8 : D) : ∃ p' q' b5 b6 b7 b8, 0 ≤ p' ∧ 0 ≤ q' ∧
    k12B [scD ns, .loc 0, formD vs, .str (fmText vs), k, a5, a6, a7, a8, .und, .und] (tw p q []) = .nx [scD ns, .loc 0, formD vs, .str (fmText vs), k, b5, b6, b7, b8, .und, .und] (tw p' q' []) := by
  have hl := fm_len hv
  generalize hT : fmText vs = T at *
  have ln : ∀ S, oLen [.str T] S = some (.int T.length, S) := fun S => by
    show (bif fit T.length then some (D.int T.length, S) else none) = _
    rw [fit_of (by omega)]; rfl
  obtain ⟨r, p1, q1, r1, r2, hp, hq, e1⟩ := t_draw (ns := ns) (n := (T.length : Int) + 1) (R := []) (by omega) (by omega) hp hq
  obtain ⟨i, p2, q2, i1, hp, hq, e2⟩ := t_pick (ns := ns) (R := []) (l := chars9.map D.str) (by simp [chars9]) (by simp [chars9]) hp hq
  rw [List.length_map] at i1
  have e2 := e2 (.str chars9[i]) (by rw [List.getElem?_map, List.getElem?_eq_getElem i1]; rfl)
  have hc := Nat.le_of_ble_eq_true (List.all_eq_true.mp chars_len chars9[i] (List.getElem_mem i1))
  generalize chars9[i] = C at *
  obtain ⟨r', p3, q3, r1', r2', hp, hq, e3⟩ := t_draw (ns := ns) (n := 2) (R := []) (by omega) (by omega) hp hq
  have c1 := L2.cutS_length T none (some r)
  have c2 := L2.cutS_length T (some (r + r')) none
  have l1 := ab_len c1 hc
  have l2 := ab_len l1 c2
  have s1 : sAsg 5 (fCall f__law_draw (fCons (fVar 0) (fCons (fVar 1) (fCons (fOp2 (oAdd false) (fOpN oLen (fCons (fVar 3) (fNil))) (fCon (.int 1))) (fNil))))) [scD ns, .loc 0, formD vs, .str T, k, a5, a6, a7, a8, .und, .und] (tw p q []) = .nx [scD ns, .loc 0, formD vs, .str T, k, .int r, a6, a7, a8, .und, .und] (tw p1 q1 []) :=
    asgF (callF (consF rfl (consF rfl (consF (op2F (opNF0 (consF rfl x_nil) (ln _)) rfl rfl) x_nil))) e1)
  have s2 : sAsg 6 (fCall f__law_pick (fCons (fVar 0) (fCons (fVar 1) (fCons (fLst false (fCons (fCon (.str "")) (fCons (fCon (.str "0")) (fCons (fCon (.str "1")) (fCons (fCon (.str "/")) (fCons (fCon (.str "-")) (fCons (fCon (.str " ")) (fCons (fCon (.str "2")) (fCons (fCon (.str "5")) (fCons (fCon (.str "x")) (fNil))))))))))) (fNil))))) [scD ns, .loc 0, formD vs, .str T, k, .int r, a6, a7, a8, .und, .und] (tw p1 q1 []) = .nx [scD ns, .loc 0, formD vs, .str T, k, .int r, .str C, a7, a8, .und, .und] (tw p2 q2 []) :=
    asgF (callF (consF rfl (consF rfl (consF rfl x_nil))) e2)
  have s3 : sAsg 7 (fOp2 (oAdd false) (fOp2 (oAdd false) (fCutS (fVar 3) (fNoPart) (fPart (fVar 5))) (fVar 6)) (fCutS (fVar 3) (fPart (fOp2 (oAdd false) (fVar 5) (fCall f__law_draw (fCons (fVar 0) (fCons (fVar 1) (fCons (fCon (.int 2)) (fNil))))))) (fNoPart))) [scD ns, .loc 0, formD vs, .str T, k, .int r, .str C, a7, a8, .und, .und] (tw p2 q2 []) = .nx [scD ns, .loc 0, formD vs, .str T, k, .int r, .str C, .str (L2.cutS T none (some r) ++ C ++ L2.cutS T (some (r + r')) none), a8, .und, .und] (tw p3 q3 []) :=
    asgF (op2F (op2F (x_cutS rfl rfl (partF rfl) (by omega)) rfl (x_addS (by omega))) (x_cutS rfl (partF (op2F rfl (callF (consF rfl (consF rfl (consF rfl x_nil))) e3) rfl)) rfl (by omega)) (x_addS (by omega)))
  generalize L2.cutS T none (some r) ++ C ++ L2.cutS T (some (r + r')) none = A at *
  unfold k12B
  rcases ask1 (a := A) (by omega) with ⟨ws, hw, ht, e4⟩ | e4
  · refine ⟨p3, q3, .int r, .str C, .str A, formD ws, hp, hq, ?_⟩
    rw [sSeq_nx s1, sSeq_nx s2, sSeq_nx s3, sSeq_nx (e' := [scD ns, .loc 0, formD vs, .str T, k, .int r, .str C, .str A, formD ws, .und, .und]) (S' := tw p3 q3 []) (by exact asgF (callF (consF rfl (consF rfl x_nil)) (e4 _)))]
    obtain ⟨b, hb⟩ := neForm (vs := ws) (S := tw p3 q3 [])
    have t1 : tVal (fOp2 oNe (fVar 8) (fTup (fCons (fCon (.str "raised")) (fCons (fCon (.int 6)) (fNil))))) [scD ns, .loc 0, formD vs, .str T, k, .int r, .str C, .str A, formD ws, .und, .und] (tw p3 q3 []) = .ok b (tw p3 q3 []) := valF (op2F rfl rfl hb)
    have t2 : Sf.tOr (tVal (fOp2 oIsN (fCall (pureF f_is_form) (fCons (fVar 8) (fNil))) (fCon (.bl true)))) (tVal (fOp2 oNe (fCall (pureF f__law_text) (fCons (fVar 8) (fNil))) (fVar 7))) [scD ns, .loc 0, formD vs, .str T, k, .int r, .str C, .str A, formD ws, .und, .und] (tw p3 q3 []) = .ok false (tw p3 q3 []) :=
      orFF (valF (op2F (callF (consF rfl x_nil) (t_is_form hw)) rfl rfl)) (valF (op2F (callF (consF rfl x_nil) (t_law_text hw)) rfl (by rw [x_neS, decide_eq_true ht]; rfl)))
    cases b with
    | false => rw [sIf_no (andFF t1)]; rfl
    | true => rw [sIf_no (andTT t1 t2)]; rfl
  · refine ⟨p3, q3, .int r, .str C, .str A, whD 6, hp, hq, ?_⟩
    rw [sSeq_nx s1, sSeq_nx s2, sSeq_nx s3, sSeq_nx (e' := [scD ns, .loc 0, formD vs, .str T, k, .int r, .str C, .str A, whD 6, .und, .und]) (S' := tw p3 q3 []) (by exact asgF (callF (consF rfl (consF rfl x_nil)) (e4 _)))]
    rw [sIf_no (andFF (by exact valF (op2F rfl rfl neWh)))]; rfl
theorem k12_loop (hv : Form vs) : ∀ (l : List D) (p q : Int) (a4 a5 a6 a7 a8 : D), 0 ≤ p → 0 ≤ q → ∃ p' q' b4 b5 b6 b7 b8, 0 ≤ p' ∧ 0 ≤ q' ∧
    forL (tgName 4) k12B l [scD ns, .loc 0, formD vs, .str (fmText vs), a4, a5, a6, a7, a8, .und, .und] (tw p q []) = .nx [scD ns, .loc 0, formD vs, .str (fmText vs), b4, b5, b6, b7, b8, .und, .und] (tw p' q' [])
  | [], p, q, a4, a5, a6, a7, a8, hp, hq => ⟨p, q, a4, a5, a6, a7, a8, hp, hq, rfl⟩
  | d :: l, p, q, a4, a5, a6, a7, a8, hp, hq => by
    obtain ⟨p1, q1, c5, c6, c7, c8, hp, hq, e⟩ := k12_step (ns := ns) hv hp hq d a5 a6 a7 a8
    obtain ⟨p2, q2, b4, b5, b6, b7, b8, hp, hq, e2⟩ := k12_loop hv l p1 q1 d c5 c6 c7 c8 hp hq
    refine ⟨p2, q2, b4, b5, b6, b7, b8, hp, hq, ?_⟩
    rw [forL_cons (env1 := [scD ns, .loc 0, formD vs, .str (fmText vs), d, a5, a6, a7, a8, .und, .und]) rfl, e]
    exact e2
end
/-! the closed lists -/
def bad0 : List D := [.str "", .str " ", .str "4", .str "4/", .str "/2", .str "4/2-", .str "4/2-3", .str "4/2 ", .str " 4/2", .str "4/2  4/2", .str "4/2,4/2", .str "6/1"]
def badL : List D := bad0 ++ [.str "0/1", .str "4/4", .str "4/0", .str "4/2-10", .str "04/2"] ++ [.str "4/2 4/2 4/2 4/2", .str "4-2", .str "4/2/3", .str "4/2-5-6", .str "4/+2", .non, .int 5, .lst [.str "4/2"], .str "4/2-0"]
theorem bad_len : badL.length = 26 := rfl
def isU : D → Bool
  | .und => true
  | _ => false
theorem nuOf {d : D} (h : isU d = false) : d ≠ .und := by rintro rfl; cases h
theorem bad_facts : (badL.all fun d => !isU d && lowD 0 d && chk (f__law_ask [.int 1, d] []) (whD 6)) = true := by decide +kernel
theorem bad_ask {d : D} (h : d ∈ badL) {S : Sto} : d ≠ .und ∧ splitF f__law_ask [.int 1, d] S = .ok (whD 6) S := by
  have f := List.all_eq_true.mp bad_facts d h
  simp only [Bool.and_eq_true, Bool.not_eq_true'] at f
  have hl : lowL 0 [.int 1, d] = true := by simp only [lowL, f.1.2]; rfl
  exact ⟨nuOf f.1.1, splitP hl (pure_eq hl (chk_ok f.2))⟩
theorem three_ok : chk (f__law_ask [.int 1, .str "4/2 5/2-7 2/1"] []) (.tup [.tup [.int 4, .int 2, .non], .tup [.int 5, .int 2, .int 7], .tup [.int 2, .int 1, .non]]) = true := by decide +kernel
theorem x_mulR {x : D} {k : Nat} {S : Sto} (h2 : k ≤ 1000) : oMul false (.lst [x]) (.int k) S = some (.lst (List.replicate k x), S) := by
  show (match lsW (.lst [x]) S with
    | some l => bif decide (-1000000 ≤ (k : Int)) && decide ((k : Int) ≤ 1000000) && fit (l.length * (k : Int).toNat) then mkL false (List.replicate (k : Int).toNat l).flatten S else none
    | none => none) = _
  simp only [lsW, Int.toNat_natCast]
  rw [decide_eq_true (by omega), decide_eq_true (by omega), fit_of (by simp; omega), rep_one, x_mkF, fit_of (by simp; omega)]; rfl
theorem eqReps {c n : Nat} (h : (c = 6 ∧ n = 26) ∨ (c = 0 ∧ n = 5)) {S : Sto} : eqB (.lst (List.replicate n (whD c))) (.lst (List.replicate n (.tup [.str "raised", .int c]))) S = some true := by
  have key : ∀ p : PyData, D.py (.lst (List.replicate n (whD c))) = some p → SeqAt.shaped p = true → PyData.eqv p p = true → eqB (.lst (List.replicate n (whD c))) (.lst (List.replicate n (.tup [.str "raised", .int c]))) S = some true := by
    intro p h1 h2 h3
    rw [eqB_gen (x := .lst (List.replicate n (whD c))) (y := .lst (List.replicate n (.tup [.str "raised", .int c]))) (S := S) h1 h1 h2 h2, h3]
  rcases h with ⟨rfl, rfl⟩ | ⟨rfl, rfl⟩
  · exact key _ rfl (by decide +kernel) (by decide +kernel)
  · exact key _ rfl (by decide +kernel) (by decide +kernel)
theorem neReps6 {S : Sto} : oNe (.lst (List.replicate 26 (whD 6))) (.lst (List.replicate 26 (.tup [.str "raised", .int 6]))) S = some (.bl false, S) := by
  unfold oNe
  rw [show eqB (.lst (List.replicate 26 (whD 6))) (.lst (List.replicate 26 (.tup [.str "raised", .int 6]))) S = some true from eqReps (c := 6) (n := 26) (.inl ⟨rfl, rfl⟩)]; rfl
theorem eqReps5 {S : Sto} : oEq (.lst (List.replicate 5 (whD 0))) (.lst (List.replicate 5 (.tup [.str "raised", .int 0]))) S = some (.bl true, S) := by
  unfold oEq
  rw [show eqB (.lst (List.replicate 5 (whD 0))) (.lst (List.replicate 5 (.tup [.str "raised", .int 0]))) S = some true from eqReps (c := 0) (n := 5) (.inr ⟨rfl, rfl⟩)]
theorem compV_all {g : D → En → Option En} {fe : FE} {env : En} {n : Nat} {S : Sto} {l : List D} {z : D} (hn : S[n]? = some (.lst l)) (h : ∀ d ∈ l, ∃ env1, g d env = some env1 ∧ fe env1 S = .ok z S) : ∀ (m i : Nat), i + m = l.length → compV g fe env n (m + 1) i S = .ok (List.replicate m z) S
  | 0, i, hm => by
    unfold compV
    rw [hn]
    have e : l[i]? = none := by rw [List.getElem?_eq_none_iff]; omega
    simp only [e]; rfl
  | m + 1, i, hm => by
    have hi : i < l.length := by omega
    unfold compV
    rw [hn]
    have e : l[i]? = some l[i] := List.getElem?_eq_getElem hi
    obtain ⟨env1, h1, h2⟩ := h l[i] (List.getElem_mem hi)
    simp only [e, h1, h2, compV_all hn h m (i + 1) (by omega)]
    rfl
/-! what is no form -/
def lvO : Option Lv → D
  | some v => v.D
  | none => .tup [.int 1]
theorem t_more {vs : List Lv} (h : Form vs) : f_is_form [.tup (vs.map Lv.D ++ [.tup [.int 1]])] [] = .ok (.bl false) [] := by
  have hlv : (vs.map Lv.D ++ [D.tup [.int 1]]) = (vs.map some ++ [none]).map lvO := by simp [lvO, Function.comp_def]
  have hn : (vs.map some ++ [(none : Option Lv)]).length = vs.length + 1 := by simp
  unfold f_is_form fn b_is_form
  have cm := comp_map lvO (fun o => D.bl o.isSome) (fCall (pureF f_is_level) (fCons (fVar 1) (fNil))) [.tup (vs.map Lv.D ++ [.tup [.int 1]]), .und] 1 [] (vs.map some ++ [none]) (fun o ho => by
    cases o with
    | none => rfl
    | some v =>
      have hv : v ∈ vs := by simpa using ho
      exact callF (consF rfl x_nil) (t_is_level (h.2.2 v hv)))
  rw [← hlv] at cm
  have f : fit (vs.map Lv.D ++ [D.tup [.int 1]]).length = true := fit_of (by have := h.2.1; simp; omega)
  have e1 : fComp false (iSq (fVar 0)) (tgName 1) (tYesF) (fCall (pureF f_is_level) (fCons (fVar 1) (fNil))) [1] [.tup (vs.map Lv.D ++ [.tup [.int 1]]), .und] [] = .ok (.lst (((vs.map some ++ [(none : Option Lv)]).map Option.isSome).map D.bl)) [] := by
    rw [x_comp]
    show (bif fit (vs.map Lv.D ++ [D.tup [.int 1]]).length then (match compL (tgName 1) tYesF _ [.tup (vs.map Lv.D ++ [.tup [.int 1]]), .und] (vs.map Lv.D ++ [.tup [.int 1]]) [] with
      | .ok xs S2 => bif false then Out.ok (D.loc S2.length) (S2 ++ [Ob.lst xs]) else Out.ok (D.lst xs) S2
      | _ => Out.bad) else .bad) = _
    rw [f, cond_true, cm, List.map_map]; rfl
  have ea : fOpN oAll (fCons (fComp false (iSq (fVar 0)) (tgName 1) (tYesF) (fCall (pureF f_is_level) (fCons (fVar 1) (fNil))) [1]) (fNil)) [.tup (vs.map Lv.D ++ [.tup [.int 1]]), .und] [] = .ok (.bl false) [] :=
    opNF0 (consF e1 x_nil) (by rw [x_all]; simp)
  have hc : ∃ b, fChain (fun i j => decide (i ≤ j)) (fun i j => decide (i ≤ j)) (fCon (.int 1)) (fOpN oLen (fCons (fVar 0) (fNil))) (fCon (.int 3)) [.tup (vs.map Lv.D ++ [.tup [.int 1]]), .und] [] = .ok (.bl b) [] := by
    refine ⟨decide (((vs.map Lv.D ++ [D.tup [.int 1]]).length : Int) ≤ 3), ?_⟩
    rw [x_chain]
    show (bif decide ((1 : Int) ≤ ((vs.map Lv.D ++ [D.tup [.int 1]]).length : Nat)) then _ else _) = _
    rw [decide_eq_true (by simp; omega)]; rfl
  obtain ⟨b, hc⟩ := hc
  show fnEnd false 0 (sRet _ [.tup (vs.map Lv.D ++ [.tup [.int 1]]), .und] []) = _
  cases b with
  | true => rw [x_ret, fandT (by rfl) (fandT hc ea)]; rfl
  | false =>
    rw [x_ret, fandT (by rfl) (by rw [x_fand, hc]; rfl)]; rfl
theorem fmt_x {d : D} (hl : lowL 0 [d] = true) (hd : d ≠ .und) (h : f_is_form [d] [] = .ok (.bl false) []) : f_format_form [d] [] = .exc 0 [] := by
  have n : f_need_form [d] [] = .exc 0 [] := by
    unfold f_need_form fn b_need_form
    show fnEnd false 0 (sIf _ _ _ [d] []) = _
    rw [sIf_yes (by exact tnotF (b := false) (valF (callF (consF (var_at rfl hd) x_nil) (pure_eq hl h))))]
    rfl
  unfold f_format_form fn b_format_form
  show fnEnd false 0 (sSeq _ _ [d] []) = _
  rw [x_seq, x_expr, x_call, consF (var_at rfl hd) x_nil, x_bind, pureX hl n]
  rfl
theorem ask0_x {d : D} (hl : lowL 0 [d] = true) (hd : d ≠ .und) (h : f_is_form [d] [] = .ok (.bl false) []) {S : Sto} : splitF f__law_ask [.int 0, d] S = .ok (whD 0) S :=
  ask_anyX (k := 0) rfl hd hl (.inl rfl) (splitX hl (fmt_x hl hd h))
theorem sIf_no2 {t : FT} {f : FS} {env : En} {S S' : Sto} (h : t env S = .ok false S') : sIf t f sSkip env S = .nx env S' := by rw [sIf_no h]; rfl
theorem lowMore {vs : List Lv} : lowL 0 [.tup (vs.map Lv.D ++ [.tup [.int 1]])] = true := by
  have : ∀ l : List Lv, lowL 0 (l.map Lv.D ++ [.tup [.int 1]]) = true := fun l => by
    induction l with
    | nil => rfl
    | cons v l ih =>
      show (lowD 0 v.D && lowL 0 (l.map Lv.D ++ [.tup [.int 1]])) = true
      rw [low_Lv, ih]; rfl
  simp only [lowL, lowD, this]; rfl
theorem law_true : ∀ ns : List Int, ns.length ≤ 63 → ∃ S', f_law [.scr (ns.map D.int)] [] = .ok (.bl true) S' := by
  intro ns _
  obtain ⟨vs, p, q, hd, hp, hq, e1⟩ := t_form (ns := ns) (R := []) (p := 0) (q := 0) (by omega) (by omega)
  have hv := hd.form
  have hl := fm_len hv
  refine ⟨[], ?_⟩
  unfold f_law fn b_law
  show fnEnd false 0 (sSeq _ (sSeq _ (sSeq _ (sSeq _ (sSeq (sFor _ (tgName 4) k12B) _)))) [scD ns, .und, .und, .und, .und, .und, .und, .und, .und, .und, .und] []) = _
  rw [sSeq_nx (e' := [scD ns, .loc 0, .und, .und, .und, .und, .und, .und, .und, .und, .und]) (S' := tw 0 0 []) (by rfl)]
  rw [sSeq_nx (e' := [scD ns, .loc 0, formD vs, .und, .und, .und, .und, .und, .und, .und, .und]) (S' := tw p q []) (by exact asgF (callF (consF rfl (consF rfl x_nil)) e1))]
  rw [sSeq_nx (e' := [scD ns, .loc 0, formD vs, .str (fmText vs), .und, .und, .und, .und, .und, .und, .und]) (S' := tw p q []) (by exact asgF (callF (consF rfl x_nil) (t_law_text hv)))]
  rw [sSeq_nx (e' := [scD ns, .loc 0, formD vs, .str (fmText vs), .und, .und, .und, .und, .und, .und, .und]) (S' := tw p q []) (by
    exact sIf_no2 (orFF (valF (op2F (callF (consF rfl (consF rfl x_nil)) (ask0_fm hv)) rfl (by rw [x_neS, decide_eq_true rfl]; rfl))) (valF (op2F (callF (consF rfl (consF rfl x_nil)) (ask1_fm hv)) rfl (oNe_self (n := 2) pl_form (by omega))))))]
  obtain ⟨p, q, b4, b5, b6, b7, b8, hp, hq, e2⟩ := k12_loop (ns := ns) hv (rngL 0 8) p q .und .und .und .und .und hp hq
  rw [sSeq_nx (e' := [scD ns, .loc 0, formD vs, .str (fmText vs), b4, b5, b6, b7, b8, .und, .und]) (S' := tw p q []) (by
    rw [x_for_]
    exact e2)]
  rw [sSeq_nx (e' := [scD ns, .loc 0, formD vs, .str (fmText vs), b4, b5, b6, b7, b8, .loc 1, .und]) (S' := tw p q [.lst bad0]) (by rfl)]
  rw [sSeq_nx (e' := [scD ns, .loc 0, formD vs, .str (fmText vs), b4, b5, b6, b7, b8, .loc 1, .und]) (S' := tw p q [.lst (bad0 ++ [.str "0/1", .str "4/4", .str "4/0", .str "4/2-10", .str "04/2"])]) (by rfl)]
  rw [sSeq_nx (e' := [scD ns, .loc 0, formD vs, .str (fmText vs), b4, b5, b6, b7, b8, .loc 1, .und]) (S' := tw p q [.lst badL]) (by rfl)]
  have cv := compV_all (g := tgName 10) (fe := fCall (splitF f__law_ask) (fCons (fCon (.int 1)) (fCons (fVar 10) (fNil)))) (env := [scD ns, .loc 0, formD vs, .str (fmText vs), b4, b5, b6, b7, b8, .loc 1, .und]) (n := 1) (S := tw p q [.lst badL]) (l := badL) (z := whD 6) rfl (fun d hd => by
    obtain ⟨n, h⟩ := bad_ask (S := tw p q [.lst badL]) hd
    exact ⟨_, rfl, callF (consF rfl (consF (var_at (i := 10) (env := [scD ns, .loc 0, formD vs, .str (fmText vs), b4, b5, b6, b7, b8, .loc 1, d]) rfl n) x_nil)) h⟩) 26 0 rfl
  have e3 : fCompD false (fVar 9) (tgName 10) (fCall (splitF f__law_ask) (fCons (fCon (.int 1)) (fCons (fVar 10) (fNil)))) [10] [scD ns, .loc 0, formD vs, .str (fmText vs), b4, b5, b6, b7, b8, .loc 1, .und] (tw p q [.lst badL]) = .ok (.lst (List.replicate 26 (whD 6))) (tw p q [.lst badL]) := by
    unfold fCompD
    show (match compV (tgName 10) _ [scD ns, .loc 0, formD vs, .str (fmText vs), b4, b5, b6, b7, b8, .loc 1, .und] 1 (26 + 1) 0 (tw p q [.lst badL]) with
      | .ok xs S2 => bif fit xs.length then (bif false then Out.ok (D.loc S2.length) (S2 ++ [Ob.lst xs]) else Out.ok (D.lst xs) S2) else .bad
      | _ => .bad) = _
    rw [cv]; rfl
  rw [sSeq_nx (e' := [scD ns, .loc 0, formD vs, .str (fmText vs), b4, b5, b6, b7, b8, .loc 1, .und]) (S' := tw p q [.lst badL]) (by
    exact sIf_no2 (valF (op2F e3 (y := .lst (List.replicate 26 (.tup [.str "raised", .int 6]))) (S2 := tw p q [.lst badL]) (by exact op2F rfl (y := .int (26 : Nat)) rfl (x_mulR (k := 26) (by decide))) neReps6)))]
  have t3 : splitF f__law_ask [.int 1, .str "4/2 5/2-7 2/1"] (tw p q [.lst badL]) = .ok (.tup [.tup [.int 4, .int 2, .non], .tup [.int 5, .int 2, .int 7], .tup [.int 2, .int 1, .non]]) (tw p q [.lst badL]) := splitP rfl (pure_eq rfl (chk_ok three_ok))
  rw [sSeq_nx (e' := [scD ns, .loc 0, formD vs, .str (fmText vs), b4, b5, b6, b7, b8, .loc 1, .und]) (S' := tw p q [.lst badL]) (by
    exact sIf_no2 (valF (op2F (callF (consF rfl (consF rfl x_nil)) t3) rfl (oNe_self (n := 2) rfl (by omega)))))]
  generalize tw p q [.lst badL] = S
  have ht : f_is_form [.str (fmText vs)] [] = .ok (.bl false) [] := rfl
  have hls : f_is_form [.lst (vs.map Lv.D)] [] = .ok (.bl false) [] := rfl
  have lls : lowL 0 [.lst (vs.map Lv.D)] = true := by
    have := low_form (vs := vs); simpa [lowL, lowD] using this
  have cm := comp_map (α := D) id (fun _ => whD 0) (fCall (splitF f__law_ask) (fCons (fCon (.int 0)) (fCons (fVar 10) (fNil)))) [scD ns, .loc 0, formD vs, .str (fmText vs), b4, b5, b6, b7, b8, .loc 1, .und] 10 S [.non, .tup [], .str (fmText vs), .lst (vs.map Lv.D), .tup (vs.map Lv.D ++ [.tup [.int 1]])] (fun d hd => by
    have key : ∀ d : D, lowL 0 [d] = true → d ≠ .und → f_is_form [d] [] = .ok (.bl false) [] → fCall (splitF f__law_ask) (fCons (fCon (.int 0)) (fCons (fVar 10) (fNil))) [scD ns, .loc 0, formD vs, .str (fmText vs), b4, b5, b6, b7, b8, .loc 1, d] S = .ok (whD 0) S := fun d h1 h2 h3 =>
      callF (consF rfl (consF (var_at (i := 10) rfl h2) x_nil)) (ask0_x h1 h2 h3)
    simp only [List.mem_cons, List.not_mem_nil, or_false] at hd
    rcases hd with rfl | rfl | rfl | rfl | rfl
    · exact key _ rfl (fun h => by cases h) rfl
    · exact key _ rfl (fun h => by cases h) rfl
    · exact key _ rfl (fun h => by cases h) ht
    · exact key _ lls (fun h => by cases h) hls
    · exact key _ lowMore (fun h => by cases h) (t_more hv))
  have sq : iSq (fTup (fCons (fCon .non) (fCons (fTup (fNil)) (fCons (fVar 3) (fCons (fOpN (oList false) (fCons (fVar 2) (fNil))) (fCons (fOp2 (oAdd false) (fVar 2) (fTup (fCons (fTup (fCons (fCon (.int 1)) (fNil))) (fNil)))) (fNil))))))) [scD ns, .loc 0, formD vs, .str (fmText vs), b4, b5, b6, b7, b8, .loc 1, .und] S = .ok [.non, .tup [], .str (fmText vs), .lst (vs.map Lv.D), .tup (vs.map Lv.D ++ [.tup [.int 1]])] S := by
    have f1 : fit (vs.map Lv.D).length = true := fit_of (by rw [List.length_map]; have := hv.2.1; omega)
    have f2 : fit ((vs.map Lv.D).length + 1) = true := fit_of (by rw [List.length_map]; have := hv.2.1; omega)
    have o1 : oList false [formD vs] S = some (.lst (vs.map Lv.D), S) := by
      show (bif fit (vs.map Lv.D).length then some (D.lst (vs.map Lv.D), S) else none) = _
      rw [f1]; rfl
    have o2 : oAdd false (formD vs) (.tup [.tup [.int 1]]) S = some (.tup (vs.map Lv.D ++ [.tup [.int 1]]), S) := by
      show (bif fit ((vs.map Lv.D).length + 1) then some (D.tup (vs.map Lv.D ++ [.tup [.int 1]]), S) else none) = _
      rw [f2]; rfl
    rw [x_iSq, x_tup, consF rfl (consF (S1 := S) (x := .tup []) (by rfl) (consF rfl (consF (opNF0 (consF rfl x_nil) o1) (consF (op2F rfl (y := .tup [.tup [.int 1]]) (by rfl) o2) x_nil))))]
    rfl
  have e4 : fComp false (iSq (fTup (fCons (fCon .non) (fCons (fTup (fNil)) (fCons (fVar 3) (fCons (fOpN (oList false) (fCons (fVar 2) (fNil))) (fCons (fOp2 (oAdd false) (fVar 2) (fTup (fCons (fTup (fCons (fCon (.int 1)) (fNil))) (fNil)))) (fNil)))))))) (tgName 10) (tYesF) (fCall (splitF f__law_ask) (fCons (fCon (.int 0)) (fCons (fVar 10) (fNil)))) [10] [scD ns, .loc 0, formD vs, .str (fmText vs), b4, b5, b6, b7, b8, .loc 1, .und] S = .ok (.lst (List.replicate 5 (whD 0))) S := by
    rw [List.map_id] at cm
    rw [x_comp, sq, x_bind]
    show (match compL (tgName 10) tYesF _ [scD ns, .loc 0, formD vs, .str (fmText vs), b4, b5, b6, b7, b8, .loc 1, .und] [.non, .tup [], .str (fmText vs), .lst (vs.map Lv.D), .tup (vs.map Lv.D ++ [.tup [.int 1]])] S with
      | .ok xs S2 => bif false then Out.ok (D.loc S2.length) (S2 ++ [Ob.lst xs]) else Out.ok (D.lst xs) S2
      | _ => Out.bad) = _
    rw [cm]; rfl
  rw [x_ret, op2F e4 (y := .lst (List.replicate 5 (.tup [.str "raised", .int 0]))) (S2 := S) (by exact op2F rfl (y := .int (5 : Nat)) rfl (x_mulR (k := 5) (by decide))) (z := .bl true) (S3 := S) eqReps5]
  exact end_pl (n := 0) rfl (by omega)

end Sf
end

section
set_option Elab.async false
set_option maxRecDepth 100000
set_option maxHeartbeats 4000000
namespace Sf
open PySem PySem.Spec PyProof.Rows L2
def top (i : Nat) : Stmt := PySem.Challenge.pw_scoreforms_k12_whole_formats.main.body.getD i (.Pass ⟨0, 0, 0, 0⟩)
structure TX (mg : Str → Option Value) : Prop where
  n_ValueError : mg "ValueError" = none
  n_all : mg "all" = none
  n_bool : mg "bool" = none
  n_int : mg "int" = none
  n_isinstance : mg "isinstance" = none
  n_len : mg "len" = none
  n_list : mg "list" = none
  n_range : mg "range" = none
  n_str : mg "str" = none
  n_tuple : mg "tuple" = none
  c_TARGET : ∃ t, mg "TARGET" = some (.int 5 t)
  c_LEAD : ∃ t, mg "LEAD" = some (.int 3 t)
  c_CAP : ∃ t, mg "CAP" = some (.int 9 t)
  c_LEVELS : ∃ t, mg "LEVELS" = some (.int 3 t)
  c_DIGITS : ∃ t, mg "DIGITS" = some (.str "0123456789" t)
section
variable {P : Program} {w : World} {K : PySem.W.Frag} {mg : Str → Option Value} {base : Heap} {xm : XM}
abbrev s_is_count : Stmt := top 14
theorem sc_is_count : FnScope ["value", "least", "most"] ["value", "least", "most"] (defScope s_is_count) := ⟨rfl, rfl, rfl, by decide +kernel, rfl, by decide +kernel, by decide +kernel⟩
theorem ok_is_count {f : Addr} {fd : FuncData} (F : Fun K "is_count" "is_count" s_is_count f fd) (T : TX mg) : FnOk P w K mg base (L2.CX P w) 1 f fd ["value", "least", "most"] (spOf ⟨P, w, K⟩ xm 3 f_is_count) :=
  fn_ok (N := ["value", "least", "most"]) (m := false) (b := b_is_count) xm F sc_is_count fun cdv A outer s H E W hr tk =>
    ss_one (ss_ret (se_and (se_callB callr_isa ok_isa (sa_cons (se_var (pv 0)) (sa_cons (se_ty T.n_int bt_int) (sa_nil))) rfl T.n_isinstance bt_isinstance) (se_and (se_not (se_callB callr_isa ok_isa (sa_cons (se_var (pv 0)) (sa_cons (se_ty T.n_bool bt_bool) (sa_nil))) rfl T.n_isinstance bt_isinstance)) (se_one (se_chain op_le op_le (se_var (pv 1)) (se_var (pv 0)) (se_var (pv 2)))))))
abbrev s_formatted : Stmt := top 20
theorem sc_formatted : FnScope ["form", "words", "target", "lead", "cap"] ["form"] (defScope s_formatted) := ⟨rfl, rfl, rfl, by decide +kernel, rfl, by decide +kernel, by decide +kernel⟩
theorem ok_formatted {f : Addr} {fd : FuncData} (F : Fun K "formatted" "formatted" s_formatted f fd) (T : TX mg) : FnOk P w K mg base (L2.CX P w) 1 f fd ["form"] (spOf ⟨P, w, K⟩ xm 1 f_formatted) :=
  fn_ok (N := ["form", "words", "target", "lead", "cap"]) (m := false) (b := b_formatted) xm F sc_formatted fun cdv A outer s H E W hr tk =>
    ss_cons (ss_set (i := 1) sc_formatted.nd rfl (Or.inl rfl) (se_lst (m := true) (sa_nil)))
    (ss_cons (ss_for (passes_of rfl) rfl (si_seq (se_var (pv 0))) (sg_tup (n := 3) (sgs_cons (pg_name (i := 2) sc_formatted.nd rfl (Or.inl rfl)) (sgs_cons (pg_name (i := 3) sc_formatted.nd rfl (Or.inl rfl)) (sgs_cons (pg_name (i := 4) sc_formatted.nd rfl (Or.inl rfl)) (sgs_nil)))) rfl rfl) (ss_one (ss_expr (se_append (se_var (pv 1)) (sa_cons (se_bin opr_add (ok_add (m := false)) (se_bin opr_add (ok_add (m := false)) (se_bin opr_add (ok_add (m := false)) (se_callTy call_str_int ok_str (sa_cons (se_var (pv 2)) (sa_nil)) rfl T.n_str bt_str) (se_str)) (se_callTy call_str_int ok_str (sa_cons (se_var (pv 3)) (sa_nil)) rfl T.n_str bt_str)) (se_if (st_cmp opr_is ok_is (se_var (pv 4)) (se_non)) (se_str) (se_bin opr_add (ok_add (m := false)) (se_str) (se_callTy call_str_int ok_str (sa_cons (se_var (pv 4)) (sa_nil)) rfl T.n_str bt_str)))) (sa_nil))))))
    (ss_one (ss_ret (se_join (se_str) (sa_cons (se_var (pv 1)) (sa_nil))))))
abbrev s_number_of : Stmt := top 22
theorem sc_number_of : FnScope ["text"] ["text"] (defScope s_number_of) := ⟨rfl, rfl, rfl, by decide +kernel, rfl, by decide +kernel, by decide +kernel⟩
theorem ok_number_of {f : Addr} {fd : FuncData} (F : Fun K "number_of" "number_of" s_number_of f fd) (T : TX mg) : FnOk P w K mg base (L2.CX P w) 1 f fd ["text"] (spOf ⟨P, w, K⟩ xm 1 f_number_of) :=
  fn_ok (N := ["text"]) (m := false) (b := b_number_of) xm F sc_number_of fun cdv A outer s H E W hr tk =>
    ss_one (ss_ret (se_if (st_bool (sw_and (st_cmp (opr_eq hr) ok_eq (se_callB call_len ok_len (sa_cons (se_var (pv 0)) (sa_nil)) rfl T.n_len bt_len) (se_int)) (sw_and1 (st_cmp op_in_str ok_inS (se_var (pv 0)) (se_globS T.c_DIGITS))))) (se_callTy call_int_str ok_int (sa_cons (se_var (pv 0)) (sa_nil)) rfl T.n_int bt_int) (se_int)))
abbrev s__law_draw : Stmt := top 26
theorem sc__law_draw : FnScope ["_law_script", "_law_town", "_law_many", "_law_one", "_law_at", "_law_mixed"] ["_law_script", "_law_town", "_law_many"] (defScope s__law_draw) := ⟨rfl, rfl, rfl, by decide +kernel, rfl, by decide +kernel, by decide +kernel⟩
theorem ok__law_draw {f : Addr} {fd : FuncData} (F : Fun K "_law_draw" "_law_draw" s__law_draw f fd) (T : TX mg) : FnOk P w K mg base (L2.CX P w) 1 f fd ["_law_script", "_law_town", "_law_many"] (spOf ⟨P, w, K⟩ xm 3 f__law_draw) :=
  fn_ok (N := ["_law_script", "_law_town", "_law_many", "_law_one", "_law_at", "_law_mixed"]) (m := false) (b := b__law_draw) xm F sc__law_draw fun cdv A outer s H E W hr tk =>
    ss_cons (ss_if (st_cmp op_gt ok_cmpI (se_ix ixr ok_ix (se_var (pv 1)) (se_int)) (se_int)) (ss_cons (ss_set (i := 3) sc__law_draw.nd rfl (Or.inl rfl) (se_bin op_mod ok_mod (se_ix ixr ok_ix (se_var (pv 1)) (se_int)) (se_var (pv 2))))
    (ss_cons (ss_setIx (se_bin opr_fdiv ok_fdiv (se_ix ixr ok_ix (se_var (pv 1)) (se_int)) (se_var (pv 2))) (se_var (pv 1)) (se_int))
    (ss_one (ss_ret (se_var (pv 3)))))) (ss_nil))
    (ss_cons (ss_set (i := 4) sc__law_draw.nd rfl (Or.inl rfl) (se_ix ixr ok_ix (se_var (pv 1)) (se_int)))
    (ss_cons (ss_augIx iop_add ok_addI (se_var (pv 1)) (se_int) (se_int))
    (ss_cons (ss_if (st_cmp (opr_eq hr) ok_eq (se_var (pv 0)) (se_lst (m := false) (sa_nil))) (ss_one (ss_ret (se_bin op_mod ok_mod (se_var (pv 4)) (se_var (pv 2))))) (ss_nil))
    (ss_cons (ss_if (st_bool (sw_and (st_cmp (opr_lt hr) ok_lt (se_var (pv 4)) (se_callB call_len ok_len (sa_cons (se_var (pv 0)) (sa_nil)) rfl T.n_len bt_len)) (sw_and1 (st_cmp op_ge ok_cmpI (se_ix ixr ok_ix (se_var (pv 0)) (se_var (pv 4))) (se_bin op_pow ok_pow (se_int) (se_int)))))) (ss_cons (ss_setIx (se_bin op_mod ok_mod (se_bin opr_fdiv ok_fdiv (se_ix ixr ok_ix (se_var (pv 0)) (se_var (pv 4))) (se_var (pv 2))) (se_bin opr_mul (ok_mul (m := false)) (se_bin op_pow ok_pow (se_int) (se_int)) (se_bin op_pow ok_pow (se_int) (se_int)))) (se_var (pv 1)) (se_int))
    (ss_one (ss_ret (se_bin op_mod ok_mod (se_ix ixr ok_ix (se_var (pv 0)) (se_var (pv 4))) (se_var (pv 2)))))) (ss_nil))
    (ss_cons (ss_set (i := 5) sc__law_draw.nd rfl (Or.inl rfl) (se_bin op_mod ok_mod (se_bin opr_add (ok_add (m := false)) (se_bin opr_add (ok_add (m := false)) (se_bin opr_mul (ok_mul (m := false)) (se_ix ixr ok_ix (se_var (pv 0)) (se_bin op_mod ok_mod (se_var (pv 4)) (se_callB call_len ok_len (sa_cons (se_var (pv 0)) (sa_nil)) rfl T.n_len bt_len))) (se_int)) (se_bin opr_mul (ok_mul (m := false)) (se_int) (se_var (pv 4)))) (se_int)) (se_int)))
    (ss_one (ss_ret (se_bin op_mod ok_mod (se_bin op_mod ok_mod (se_bin op_mod ok_mod (se_bin op_pow ok_pow (se_var (pv 5)) (se_int)) (se_int)) (se_int)) (se_var (pv 2))))))))))
abbrev s__law_which : Stmt := top 30
theorem sc__law_which : FnScope ["_law_error", "_law_own"] ["_law_error"] (defScope s__law_which) := ⟨rfl, rfl, rfl, by decide +kernel, rfl, by decide +kernel, by decide +kernel⟩
theorem ok_which {c : Nat} {C f : Addr} {kV doc pm cdv ct oc : Value} {an od : Option Addr} {osl : Array (Option Value)} (lk : K.lookup f = some ⟨oc, od, .func (PySem.W.fnOf "_law_which" "_law_which" (defArgs s__law_which) (defBody s__law_which) (defScope s__law_which) .none kV doc pm an cdv ct), osl⟩) (hcd : PySem.W.codeIn K cdv "_law_which" = true) (T : TX mg) (hc : c < 7) (hx : xm c = .ref C) (XX : XF K mg c C) :
    FnE P w K mg base 1 f (PySem.W.fnOf "_law_which" "_law_which" (defArgs s__law_which) (defBody s__law_which) (defScope s__law_which) .none kV doc pm an cdv ct) ["_law_error"] (xm c) (whD c) := by
  obtain ⟨D0, g0, k0⟩ := XX.is 0 (by decide)
  obtain ⟨D1, g1, k1⟩ := XX.is 1 (by decide)
  obtain ⟨D2, g2, k2⟩ := XX.is 2 (by decide)
  obtain ⟨D3, g3, k3⟩ := XX.is 3 (by decide)
  obtain ⟨D4, g4, k4⟩ := XX.is 4 (by decide)
  obtain ⟨D5, g5, k5⟩ := XX.is 5 (by decide)
  obtain ⟨D6, g6, k6⟩ := XX.is 6 (by decide)
  rw [hx]
  exact fn_exc (N := ["_law_error", "_law_own"]) (xm := xm) (b := b_which c) lk hcd sc__law_which rfl (b_which_run c hc) fun A outer s H E p hz hf hr =>
    ss_cons (ss_set (i := 1) sc__law_which.nd rfl (Or.inl rfl) (se_lst (m := true) (sa_cons (se_isX (c := .ref D0) XX.ec hz hf (List.mem_singleton.mpr rfl) (pv 0) (pe_glob (by rfl) g0 rfl) (fun _ h => h) k0 T.n_isinstance bt_isinstance) (sa_cons (se_isX (c := .ref D1) XX.ec hz hf (List.mem_singleton.mpr rfl) (pv 0) (pe_glob (by rfl) g1 rfl) (fun _ h => h) k1 T.n_isinstance bt_isinstance) (sa_cons (se_isX (c := .ref D2) XX.ec hz hf (List.mem_singleton.mpr rfl) (pv 0) (pe_glob (by rfl) g2 rfl) (fun _ h => h) k2 T.n_isinstance bt_isinstance) (sa_nil))))))
    (ss_cons (ss_expr (se_extend (se_var (pv 1)) (sa_cons (se_lst (m := false) (sa_cons (se_isX (c := .ref D3) XX.ec hz hf (List.mem_singleton.mpr rfl) (pv 0) (pe_glob (by rfl) g3 rfl) (fun _ h => h) k3 T.n_isinstance bt_isinstance) (sa_cons (se_isX (c := .ref D4) XX.ec hz hf (List.mem_singleton.mpr rfl) (pv 0) (pe_glob (by rfl) g4 rfl) (fun _ h => h) k4 T.n_isinstance bt_isinstance) (sa_nil)))) (sa_nil))))
    (ss_cons (ss_expr (se_extend (se_var (pv 1)) (sa_cons (se_lst (m := false) (sa_cons (se_isX (c := .ref D5) XX.ec hz hf (List.mem_singleton.mpr rfl) (pv 0) (pe_glob (by rfl) g5 rfl) (fun _ h => h) k5 T.n_isinstance bt_isinstance) (sa_nil))) (sa_nil))))
    (ss_cons (ss_expr (se_append (se_var (pv 1)) (sa_cons (se_isX (c := .ref D6) XX.ec hz hf (List.mem_singleton.mpr rfl) (pv 0) (pe_glob (by rfl) g6 rfl) (fun _ h => h) k6 T.n_isinstance bt_isinstance) (sa_nil))))
    (ss_cons (ss_if (st_bool (sw_or (st_cmp op_ne ok_neI (se_countB (se_var (pv 1)) (sa_cons (se_bl) (sa_nil))) (se_int)) (sw_or1 (st_not (st_val (se_isX (c := .ty "ValueError") XX.ec hz hf (List.mem_singleton.mpr rfl) (pv 0) (pe_bltn (by rfl) T.n_ValueError bt_ValueError rfl) (fun _ h => h) XX.ve T.n_isinstance bt_isinstance)))))) (ss_one (ss_ret (se_tup (sa_cons (se_str) (sa_cons (se_un un_neg ok_neg (se_int)) (sa_nil)))))) (ss_nil))
    (ss_one (ss_ret (se_tup (sa_cons (se_str) (sa_cons (se_indexB (se_var (pv 1)) (sa_cons (se_bl) (sa_nil))) (sa_nil))))))))))
abbrev s__law_text : Stmt := top 31
theorem sc__law_text : FnScope ["_law_form_here", "_law_text_here", "_law_target", "_law_lead", "_law_cap"] ["_law_form_here"] (defScope s__law_text) := ⟨rfl, rfl, rfl, by decide +kernel, rfl, by decide +kernel, by decide +kernel⟩
theorem ok__law_text {f : Addr} {fd : FuncData} (F : Fun K "_law_text" "_law_text" s__law_text f fd) (T : TX mg) : FnOk P w K mg base (L2.CX P w) 1 f fd ["_law_form_here"] (spOf ⟨P, w, K⟩ xm 1 f__law_text) :=
  fn_ok (N := ["_law_form_here", "_law_text_here", "_law_target", "_law_lead", "_law_cap"]) (m := false) (b := b__law_text) xm F sc__law_text fun cdv A outer s H E W hr tk =>
    ss_cons (ss_set (i := 1) sc__law_text.nd rfl (Or.inl rfl) (se_str))
    (ss_cons (ss_for (passes_of rfl) rfl (si_seq (se_var (pv 0))) (sg_tup (n := 3) (sgs_cons (pg_name (i := 2) sc__law_text.nd rfl (Or.inl rfl)) (sgs_cons (pg_name (i := 3) sc__law_text.nd rfl (Or.inl rfl)) (sgs_cons (pg_name (i := 4) sc__law_text.nd rfl (Or.inl rfl)) (sgs_nil)))) rfl rfl) (ss_cons (ss_set (i := 1) sc__law_text.nd rfl (Or.inl rfl) (se_bin opr_add (ok_add (m := false)) (se_bin opr_add (ok_add (m := false)) (se_bin opr_add (ok_add (m := false)) (se_bin opr_add (ok_add (m := false)) (se_var (pv 1)) (se_if (st_cmp (opr_ne hr) ok_ne (se_var (pv 1)) (se_str)) (se_str) (se_str))) (se_callTy call_str_int ok_str (sa_cons (se_var (pv 2)) (sa_nil)) rfl T.n_str bt_str)) (se_str)) (se_callTy call_str_int ok_str (sa_cons (se_var (pv 3)) (sa_nil)) rfl T.n_str bt_str)))
    (ss_one (ss_set (i := 1) sc__law_text.nd rfl (Or.inl rfl) (se_bin opr_add (ok_add (m := false)) (se_var (pv 1)) (se_if (st_cmp opr_is ok_is (se_var (pv 4)) (se_non)) (se_str) (se_bin opr_add (ok_add (m := false)) (se_str) (se_callTy call_str_int ok_str (sa_cons (se_var (pv 4)) (sa_nil)) rfl T.n_str bt_str))))))))
    (ss_one (ss_ret (se_var (pv 1)))))
abbrev s_is_level : Stmt := top 15
theorem sc_is_level : FnScope ["value"] ["value"] (defScope s_is_level) := ⟨rfl, rfl, rfl, by decide +kernel, rfl, by decide +kernel, by decide +kernel⟩
theorem ok_is_level {f : Addr} {fd : FuncData} (F : Fun K "is_level" "is_level" s_is_level f fd) (T : TX mg) {a_is_count : Addr} {fd_is_count : FuncData} (D_is_count : Df K mg "is_count" s_is_count ["value", "least", "most"] a_is_count fd_is_count) (G_is_count : FnOk P w K mg base (L2.CX P w) 1 a_is_count fd_is_count ["value", "least", "most"] (spOf ⟨P, w, K⟩ xm 3 f_is_count)) : FnOk P w K mg base (L2.CX P w) 2 f fd ["value"] (spOf ⟨P, w, K⟩ xm 1 f_is_level) :=
  fn_ok (N := ["value"]) (m := false) (b := b_is_level) xm F sc_is_level fun cdv A outer s H E W hr tk =>
    ss_cons (ss_if (st_bool (sw_or (st_not (st_val (se_callB callr_isa ok_isa (sa_cons (se_var (pv 0)) (sa_cons (se_ty T.n_tuple bt_tuple) (sa_nil))) rfl T.n_isinstance bt_isinstance))) (sw_or (st_cmp (opr_ne hr) ok_ne (se_callB call_len ok_len (sa_cons (se_var (pv 0)) (sa_nil)) rfl T.n_len bt_len) (se_int)) (sw_or1 (st_not (st_val (se_call (fn_pure G_is_count) rfl tk (hr.mono (by decide)) D_is_count.m D_is_count.F.kp D_is_count.b (sa_cons (se_ix ixr ok_ix (se_var (pv 0)) (se_int)) (sa_cons (se_int) (sa_cons (se_globI T.c_TARGET) (sa_nil)))) (len_cons (len_cons (len_cons len_nil)))))))))) (ss_one (ss_ret (se_bl))) (ss_nil))
    (ss_one (ss_ret (se_and (se_call (fn_pure G_is_count) rfl tk (hr.mono (by decide)) D_is_count.m D_is_count.F.kp D_is_count.b (sa_cons (se_ix ixr ok_ix (se_var (pv 0)) (se_int)) (sa_cons (se_int) (sa_cons (se_globI T.c_LEAD) (sa_nil)))) (len_cons (len_cons (len_cons len_nil)))) (se_one (se_or (se_cmp opr_is ok_is (se_ix ixr ok_ix (se_var (pv 0)) (se_int)) (se_non)) (se_one (se_call (fn_pure G_is_count) rfl tk (hr.mono (by decide)) D_is_count.m D_is_count.F.kp D_is_count.b (sa_cons (se_ix ixr ok_ix (se_var (pv 0)) (se_int)) (sa_cons (se_ix ixr ok_ix (se_var (pv 0)) (se_int)) (sa_cons (se_globI T.c_CAP) (sa_nil)))) (len_cons (len_cons (len_cons len_nil))))))))))
abbrev s_parsed_level : Stmt := top 23
theorem sc_parsed_level : FnScope ["word", "target", "slash", "rest", "lead", "hyphen", "cap"] ["word"] (defScope s_parsed_level) := ⟨rfl, rfl, rfl, by decide +kernel, rfl, by decide +kernel, by decide +kernel⟩
theorem ok_parsed_level {f : Addr} {fd : FuncData} (F : Fun K "parsed_level" "parsed_level" s_parsed_level f fd) (T : TX mg) {a_number_of : Addr} {fd_number_of : FuncData} (D_number_of : Df K mg "number_of" s_number_of ["text"] a_number_of fd_number_of) (G_number_of : FnOk P w K mg base (L2.CX P w) 1 a_number_of fd_number_of ["text"] (spOf ⟨P, w, K⟩ xm 1 f_number_of)) : FnOk P w K mg base (L2.CX P w) 2 f fd ["word"] (spOf ⟨P, w, K⟩ xm 1 f_parsed_level) :=
  fn_ok (N := ["word", "target", "slash", "rest", "lead", "hyphen", "cap"]) (m := false) (b := b_parsed_level) xm F sc_parsed_level fun cdv A outer s H E W hr tk =>
    ss_cons (ss_asgT (sg_tup (n := 3) (sgs_cons (pg_name (i := 1) sc_parsed_level.nd rfl (Or.inl rfl)) (sgs_cons (pg_name (i := 2) sc_parsed_level.nd rfl (Or.inl rfl)) (sgs_cons (pg_name (i := 3) sc_parsed_level.nd rfl (Or.inl rfl)) (sgs_nil)))) rfl rfl) (se_partition (se_var (pv 0)) (sa_cons (se_str) (sa_nil))))
    (ss_cons (ss_asgT (sg_tup (n := 3) (sgs_cons (pg_name (i := 4) sc_parsed_level.nd rfl (Or.inl rfl)) (sgs_cons (pg_name (i := 5) sc_parsed_level.nd rfl (Or.inl rfl)) (sgs_cons (pg_name (i := 6) sc_parsed_level.nd rfl (Or.inl rfl)) (sgs_nil)))) rfl rfl) (se_partition (se_var (pv 3)) (sa_cons (se_str) (sa_nil))))
    (ss_one (ss_ret (se_tup (sa_cons (se_call (fn_pure G_number_of) rfl tk (hr.mono (by decide)) D_number_of.m D_number_of.F.kp D_number_of.b (sa_cons (se_var (pv 1)) (sa_nil)) (len_cons len_nil)) (sa_cons (se_call (fn_pure G_number_of) rfl tk (hr.mono (by decide)) D_number_of.m D_number_of.F.kp D_number_of.b (sa_cons (se_var (pv 4)) (sa_nil)) (len_cons len_nil)) (sa_cons (se_if (st_cmp (opr_ne hr) ok_ne (se_var (pv 5)) (se_str)) (se_call (fn_pure G_number_of) rfl tk (hr.mono (by decide)) D_number_of.m D_number_of.F.kp D_number_of.b (sa_cons (se_var (pv 6)) (sa_nil)) (len_cons len_nil)) (se_non)) (sa_nil))))))))
abbrev s__law_pick : Stmt := top 27
theorem sc__law_pick : FnScope ["_law_script", "_law_town", "_law_some"] ["_law_script", "_law_town", "_law_some"] (defScope s__law_pick) := ⟨rfl, rfl, rfl, by decide +kernel, rfl, by decide +kernel, by decide +kernel⟩
theorem ok__law_pick {f : Addr} {fd : FuncData} (F : Fun K "_law_pick" "_law_pick" s__law_pick f fd) (T : TX mg) {a__law_draw : Addr} {fd__law_draw : FuncData} (D__law_draw : Df K mg "_law_draw" s__law_draw ["_law_script", "_law_town", "_law_many"] a__law_draw fd__law_draw) (G__law_draw : FnOk P w K mg base (L2.CX P w) 1 a__law_draw fd__law_draw ["_law_script", "_law_town", "_law_many"] (spOf ⟨P, w, K⟩ xm 3 f__law_draw)) : FnOk P w K mg base (L2.CX P w) 2 f fd ["_law_script", "_law_town", "_law_some"] (spOf ⟨P, w, K⟩ xm 3 f__law_pick) :=
  fn_ok (N := ["_law_script", "_law_town", "_law_some"]) (m := false) (b := b__law_pick) xm F sc__law_pick fun cdv A outer s H E W hr tk =>
    ss_one (ss_ret (se_ix ixr ok_ix (se_var (pv 2)) (se_call G__law_draw rfl tk (hr.mono (by decide)) D__law_draw.m D__law_draw.F.kp D__law_draw.b (sa_cons (se_var (pv 0)) (sa_cons (se_var (pv 1)) (sa_cons (se_callB call_len ok_len (sa_cons (se_var (pv 2)) (sa_nil)) rfl T.n_len bt_len) (sa_nil)))) (len_cons (len_cons (len_cons len_nil))))))
abbrev s_is_form : Stmt := top 16
theorem sc_is_form : FnScope ["value", "level"] ["value"] (defScope s_is_form) := ⟨rfl, rfl, rfl, by decide +kernel, rfl, by decide +kernel, by decide +kernel⟩
theorem ok_is_form {f : Addr} {fd : FuncData} (F : Fun K "is_form" "is_form" s_is_form f fd) (T : TX mg) {a_is_level : Addr} {fd_is_level : FuncData} (D_is_level : Df K mg "is_level" s_is_level ["value"] a_is_level fd_is_level) (G_is_level : FnOk P w K mg base (L2.CX P w) 2 a_is_level fd_is_level ["value"] (spOf ⟨P, w, K⟩ xm 1 f_is_level)) : FnOk P w K mg base (L2.CX P w) 3 f fd ["value"] (spOf ⟨P, w, K⟩ xm 1 f_is_form) :=
  fn_ok (N := ["value", "level"]) (m := false) (b := b_is_form) xm F sc_is_form fun cdv A outer s H E W hr tk =>
    ss_one (ss_ret (se_and (se_callB callr_isa ok_isa (sa_cons (se_var (pv 0)) (sa_cons (se_ty T.n_tuple bt_tuple) (sa_nil))) rfl T.n_isinstance bt_isinstance) (se_and (se_chain op_le op_le (se_int) (se_callB call_len ok_len (sa_cons (se_var (pv 0)) (sa_nil)) rfl T.n_len bt_len) (se_globI T.c_LEVELS)) (se_one (se_callB (cr_all rfl) ok_all (sa_cons (se_lc (m := false) (own := [("level", 1)]) rfl sc_is_form.nd (blkOk_by (N := ["value", "level"]) (sc := defScope s_is_form) (by decide +kernel)) (by decide) (si_seq (se_var (pv 0))) (fun _ _ _ _ _ => pg_name (i := 1) sc_is_form.nd rfl (Or.inl rfl)) tgk_name (fun _ _ _ _ _ => spt_nil) (fun _ _ _ _ _ => se_call (fn_pure G_is_level) rfl takes0 (hr.mono (by decide)) D_is_level.m D_is_level.F.kp D_is_level.b (sa_cons (se_var (pv 1)) (sa_nil)) (len_cons len_nil))) (sa_nil)) rfl T.n_all bt_all)))))
abbrev s__law_level : Stmt := top 28
theorem sc__law_level : FnScope ["_law_script", "_law_town", "_law_most", "_law_target", "_law_cap"] ["_law_script", "_law_town", "_law_most"] (defScope s__law_level) := ⟨rfl, rfl, rfl, by decide +kernel, rfl, by decide +kernel, by decide +kernel⟩
theorem ok__law_level {f : Addr} {fd : FuncData} (F : Fun K "_law_level" "_law_level" s__law_level f fd) (T : TX mg) {a__law_draw : Addr} {fd__law_draw : FuncData} (D__law_draw : Df K mg "_law_draw" s__law_draw ["_law_script", "_law_town", "_law_many"] a__law_draw fd__law_draw) (G__law_draw : FnOk P w K mg base (L2.CX P w) 1 a__law_draw fd__law_draw ["_law_script", "_law_town", "_law_many"] (spOf ⟨P, w, K⟩ xm 3 f__law_draw)) {a__law_pick : Addr} {fd__law_pick : FuncData} (D__law_pick : Df K mg "_law_pick" s__law_pick ["_law_script", "_law_town", "_law_some"] a__law_pick fd__law_pick) (G__law_pick : FnOk P w K mg base (L2.CX P w) 2 a__law_pick fd__law_pick ["_law_script", "_law_town", "_law_some"] (spOf ⟨P, w, K⟩ xm 3 f__law_pick)) : FnOk P w K mg base (L2.CX P w) 3 f fd ["_law_script", "_law_town", "_law_most"] (spOf ⟨P, w, K⟩ xm 3 f__law_level) :=
  fn_ok (N := ["_law_script", "_law_town", "_law_most", "_law_target", "_law_cap"]) (m := false) (b := b__law_level) xm F sc__law_level fun cdv A outer s H E W hr tk =>
    ss_cons (ss_set (i := 3) sc__law_level.nd rfl (Or.inl rfl) (se_bin opr_add (ok_add (m := false)) (se_int) (se_call G__law_draw rfl tk (hr.mono (by decide)) D__law_draw.m D__law_draw.F.kp D__law_draw.b (sa_cons (se_var (pv 0)) (sa_cons (se_var (pv 1)) (sa_cons (se_var (pv 2)) (sa_nil)))) (len_cons (len_cons (len_cons len_nil))))))
    (ss_cons (ss_set (i := 4) sc__law_level.nd rfl (Or.inl rfl) (se_call G__law_pick rfl tk (hr.mono (by decide)) D__law_pick.m D__law_pick.F.kp D__law_pick.b (sa_cons (se_var (pv 0)) (sa_cons (se_var (pv 1)) (sa_cons (se_lst (m := false) (sa_cons (se_non) (sa_cons (se_non) (sa_cons (se_var (pv 3)) (sa_cons (se_bin opr_add (ok_add (m := false)) (se_var (pv 3)) (se_int)) (sa_cons (se_bin opr_add (ok_add (m := false)) (se_var (pv 3)) (se_int)) (sa_nil))))))) (sa_nil)))) (len_cons (len_cons (len_cons len_nil)))))
    (ss_one (ss_ret (se_tup (sa_cons (se_var (pv 3)) (sa_cons (se_bin opr_add (ok_add (m := false)) (se_int) (se_call G__law_draw rfl tk (hr.mono (by decide)) D__law_draw.m D__law_draw.F.kp D__law_draw.b (sa_cons (se_var (pv 0)) (sa_cons (se_var (pv 1)) (sa_cons (se_int) (sa_nil)))) (len_cons (len_cons (len_cons len_nil))))) (sa_cons (se_var (pv 4)) (sa_nil))))))))
abbrev s_need_form : Stmt := top 17
theorem sc_need_form : FnScope ["value"] ["value"] (defScope s_need_form) := ⟨rfl, rfl, rfl, by decide +kernel, rfl, by decide +kernel, by decide +kernel⟩
theorem ok_need_form {f : Addr} {fd : FuncData} (F : Fun K "need_form" "need_form" s_need_form f fd) (T : TX mg) {C0 : Addr} (E0 : EC K mg xm "InvalidForm" 0 C0) {a_is_form : Addr} {fd_is_form : FuncData} (D_is_form : Df K mg "is_form" s_is_form ["value"] a_is_form fd_is_form) (G_is_form : FnOk P w K mg base (L2.CX P w) 3 a_is_form fd_is_form ["value"] (spOf ⟨P, w, K⟩ xm 1 f_is_form)) : FnOk P w K mg base (L2.CX P w) 4 f fd ["value"] (spOf ⟨P, w, K⟩ xm 1 f_need_form) :=
  fn_ok (N := ["value"]) (m := false) (b := b_need_form) xm F sc_need_form fun cdv A outer s H E W hr tk =>
    ss_one (ss_if (st_not (st_val (se_call (fn_pure G_is_form) rfl tk (hr.mono (by decide)) D_is_form.m D_is_form.F.kp D_is_form.b (sa_cons (se_var (pv 0)) (sa_nil)) (len_cons len_nil)))) (ss_one (ss_raise E0 rfl tk)) (ss_nil))
abbrev s_parse_form : Stmt := top 24
theorem sc_parse_form : FnScope ["text", "form", "word"] ["text"] (defScope s_parse_form) := ⟨rfl, rfl, rfl, by decide +kernel, rfl, by decide +kernel, by decide +kernel⟩
theorem ok_parse_form {f : Addr} {fd : FuncData} (F : Fun K "parse_form" "parse_form" s_parse_form f fd) (T : TX mg) {C6 : Addr} (E6 : EC K mg xm "InvalidFormat" 6 C6) {a_is_form : Addr} {fd_is_form : FuncData} (D_is_form : Df K mg "is_form" s_is_form ["value"] a_is_form fd_is_form) (G_is_form : FnOk P w K mg base (L2.CX P w) 3 a_is_form fd_is_form ["value"] (spOf ⟨P, w, K⟩ xm 1 f_is_form)) {a_formatted : Addr} {fd_formatted : FuncData} (D_formatted : Df K mg "formatted" s_formatted ["form"] a_formatted fd_formatted) (G_formatted : FnOk P w K mg base (L2.CX P w) 1 a_formatted fd_formatted ["form"] (spOf ⟨P, w, K⟩ xm 1 f_formatted)) {a_parsed_level : Addr} {fd_parsed_level : FuncData} (D_parsed_level : Df K mg "parsed_level" s_parsed_level ["word"] a_parsed_level fd_parsed_level) (G_parsed_level : FnOk P w K mg base (L2.CX P w) 2 a_parsed_level fd_parsed_level ["word"] (spOf ⟨P, w, K⟩ xm 1 f_parsed_level)) : FnOk P w K mg base (L2.CX P w) 4 f fd ["text"] (spOf ⟨P, w, K⟩ xm 1 f_parse_form) :=
  fn_ok (N := ["text", "form", "word"]) (m := false) (b := b_parse_form) xm F sc_parse_form fun cdv A outer s H E W hr tk =>
    ss_cons (ss_if (st_not (st_val (se_callB callr_isa ok_isa (sa_cons (se_var (pv 0)) (sa_cons (se_ty T.n_str bt_str) (sa_nil))) rfl T.n_isinstance bt_isinstance))) (ss_one (ss_raise E6 rfl tk)) (ss_nil))
    (ss_cons (ss_set (i := 1) sc_parse_form.nd rfl (Or.inl rfl) (se_callTy call_tuple_of ok_tuple (sa_cons (se_lc (m := false) (own := [("word", 2)]) rfl sc_parse_form.nd (blkOk_by (N := ["text", "form", "word"]) (sc := defScope s_parse_form) (by decide +kernel)) (by decide) (si_seq (se_split (se_var (pv 0)) (sa_cons (se_str) (sa_nil)))) (fun _ _ _ _ _ => pg_name (i := 2) sc_parse_form.nd rfl (Or.inl rfl)) tgk_name (fun _ _ _ _ _ => spt_nil) (fun _ _ _ _ _ => se_call (fn_pure G_parsed_level) rfl takes0 (hr.mono (by decide)) D_parsed_level.m D_parsed_level.F.kp D_parsed_level.b (sa_cons (se_var (pv 2)) (sa_nil)) (len_cons len_nil))) (sa_nil)) rfl T.n_tuple bt_tuple))
    (ss_cons (ss_if (st_bool (sw_or (st_not (st_val (se_call (fn_pure G_is_form) rfl tk (hr.mono (by decide)) D_is_form.m D_is_form.F.kp D_is_form.b (sa_cons (se_var (pv 1)) (sa_nil)) (len_cons len_nil)))) (sw_or1 (st_cmp (opr_ne hr) ok_ne (se_call (fn_pure G_formatted) rfl tk (hr.mono (by decide)) D_formatted.m D_formatted.F.kp D_formatted.b (sa_cons (se_var (pv 1)) (sa_nil)) (len_cons len_nil)) (se_var (pv 0)))))) (ss_one (ss_raise E6 rfl tk)) (ss_nil))
    (ss_one (ss_ret (se_var (pv 1))))))
abbrev s__law_form : Stmt := top 29
theorem sc__law_form : FnScope ["_law_script", "_law_town", "_law_levels", "_law_k"] ["_law_script", "_law_town"] (defScope s__law_form) := ⟨rfl, rfl, rfl, by decide +kernel, rfl, by decide +kernel, by decide +kernel⟩
theorem ok__law_form {f : Addr} {fd : FuncData} (F : Fun K "_law_form" "_law_form" s__law_form f fd) (T : TX mg) {a__law_pick : Addr} {fd__law_pick : FuncData} (D__law_pick : Df K mg "_law_pick" s__law_pick ["_law_script", "_law_town", "_law_some"] a__law_pick fd__law_pick) (G__law_pick : FnOk P w K mg base (L2.CX P w) 2 a__law_pick fd__law_pick ["_law_script", "_law_town", "_law_some"] (spOf ⟨P, w, K⟩ xm 3 f__law_pick)) {a__law_level : Addr} {fd__law_level : FuncData} (D__law_level : Df K mg "_law_level" s__law_level ["_law_script", "_law_town", "_law_most"] a__law_level fd__law_level) (G__law_level : FnOk P w K mg base (L2.CX P w) 3 a__law_level fd__law_level ["_law_script", "_law_town", "_law_most"] (spOf ⟨P, w, K⟩ xm 3 f__law_level)) : FnOk P w K mg base (L2.CX P w) 4 f fd ["_law_script", "_law_town"] (spOf ⟨P, w, K⟩ xm 2 f__law_form) :=
  fn_ok (N := ["_law_script", "_law_town", "_law_levels", "_law_k"]) (m := false) (b := b__law_form) xm F sc__law_form fun cdv A outer s H E W hr tk =>
    ss_cons (ss_set (i := 2) sc__law_form.nd rfl (Or.inr rfl) (se_call G__law_pick rfl tk (hr.mono (by decide)) D__law_pick.m D__law_pick.F.kp D__law_pick.b (sa_cons (se_var (pv 0)) (sa_cons (se_var (pv 1)) (sa_cons (se_lst (m := false) (sa_cons (se_int) (sa_cons (se_int) (sa_cons (se_int) (sa_cons (se_int) (sa_cons (se_int) (sa_nil))))))) (sa_nil)))) (len_cons (len_cons (len_cons len_nil)))))
    (ss_one (ss_ret (se_callTy call_tuple_of ok_tuple (sa_cons (se_lc (m := false) (own := [("_law_k", 3)]) rfl sc__law_form.nd (blkOk_by (N := ["_law_script", "_law_town", "_law_levels", "_law_k"]) (sc := defScope s__law_form) (by decide +kernel)) (by decide) (si_range1 (sa_cons (se_var (pv 2)) (sa_nil)) rfl T.n_range) (fun _ _ _ _ _ => pg_name (i := 3) sc__law_form.nd rfl (Or.inl rfl)) tgk_name (fun _ _ _ _ _ => spt_nil) (fun _ _ _ _ _ => se_call G__law_level rfl takes0 (hr.mono (by decide)) D__law_level.m D__law_level.F.kp D__law_level.b (sa_cons (se_var (pv 0)) (sa_cons (se_var (pv 1)) (sa_cons (se_if (st_cmp (opr_lt hr) ok_lt (se_var (pv 2)) (se_int)) (se_bin op_sub ok_sub (se_int) (se_var (pv 2))) (se_int)) (sa_nil)))) (len_cons (len_cons (len_cons len_nil))))) (sa_nil)) rfl T.n_tuple bt_tuple)))
abbrev s_format_form : Stmt := top 21
theorem sc_format_form : FnScope ["form"] ["form"] (defScope s_format_form) := ⟨rfl, rfl, rfl, by decide +kernel, rfl, by decide +kernel, by decide +kernel⟩
theorem ok_format_form {f : Addr} {fd : FuncData} (F : Fun K "format_form" "format_form" s_format_form f fd) (T : TX mg) {a_need_form : Addr} {fd_need_form : FuncData} (D_need_form : Df K mg "need_form" s_need_form ["value"] a_need_form fd_need_form) (G_need_form : FnOk P w K mg base (L2.CX P w) 4 a_need_form fd_need_form ["value"] (spOf ⟨P, w, K⟩ xm 1 f_need_form)) {a_formatted : Addr} {fd_formatted : FuncData} (D_formatted : Df K mg "formatted" s_formatted ["form"] a_formatted fd_formatted) (G_formatted : FnOk P w K mg base (L2.CX P w) 1 a_formatted fd_formatted ["form"] (spOf ⟨P, w, K⟩ xm 1 f_formatted)) : FnOk P w K mg base (L2.CX P w) 5 f fd ["form"] (spOf ⟨P, w, K⟩ xm 1 f_format_form) :=
  fn_ok (N := ["form"]) (m := false) (b := b_format_form) xm F sc_format_form fun cdv A outer s H E W hr tk =>
    ss_cons (ss_expr (se_call (fn_pure G_need_form) rfl tk (hr.mono (by decide)) D_need_form.m D_need_form.F.kp D_need_form.b (sa_cons (se_var (pv 0)) (sa_nil)) (len_cons len_nil)))
    (ss_one (ss_ret (se_call (fn_pure G_formatted) rfl tk (hr.mono (by decide)) D_formatted.m D_formatted.F.kp D_formatted.b (sa_cons (se_var (pv 0)) (sa_nil)) (len_cons len_nil))))
abbrev s__law_ask : Stmt := top 32
theorem sc__law_ask : FnScope ["_law_what", "_law_value", "_law_error"] ["_law_what", "_law_value"] (defScope s__law_ask) := ⟨rfl, rfl, rfl, by decide +kernel, rfl, by decide +kernel, by decide +kernel⟩
theorem ok__law_ask {f : Addr} {fd : FuncData} (F : Fun K "_law_ask" "_law_ask" s__law_ask f fd) (T : TX mg) {g_w : Addr} {fd_w : FuncData} {SE : Addr} (Wh : Whs P w K mg base xm [0, 6] 1 g_w fd_w SE) {a_format_form : Addr} {fd_format_form : FuncData} (D_format_form : Df K mg "format_form" s_format_form ["form"] a_format_form fd_format_form) (G_format_form : FnOk P w K mg base (L2.CX P w) 5 a_format_form fd_format_form ["form"] (spOf ⟨P, w, K⟩ xm 1 f_format_form)) {a_parse_form : Addr} {fd_parse_form : FuncData} (D_parse_form : Df K mg "parse_form" s_parse_form ["text"] a_parse_form fd_parse_form) (G_parse_form : FnOk P w K mg base (L2.CX P w) 4 a_parse_form fd_parse_form ["text"] (spOf ⟨P, w, K⟩ xm 1 f_parse_form)) : FnOk P w K mg base (L2.CX P w) 6 f fd ["_law_what", "_law_value"] (spOf ⟨P, w, K⟩ xm 2 f__law_ask) :=
  fn_ok (N := ["_law_what", "_law_value", "_law_error"]) (m := false) (b := b__law_ask) xm F sc__law_ask fun cdv A outer s H E W hr tk =>
    ss_one (ss_try (i := 2) (x := "ScoreError") rfl rfl sc__law_ask.nd rfl rfl ⟨rfl, by decide, .inl Wh.gS⟩ tk (fun W pn xe tk _ => ss_one (ss_ret (se_pickC (FnTab.cons rfl (by decide) D_format_form.m D_format_form.F.kp D_format_form.b (fn_split G_format_form) (hr.mono (by decide)) (FnTab.cons rfl (by decide) D_parse_form.m D_parse_form.F.kp D_parse_form.b (fn_split G_parse_form) (hr.mono (by decide)) (FnTab.nil))) rfl tk (se_var (pv 0)) (sa_cons (se_var (pv 1)) (sa_nil)) (len_cons len_nil)))) Wh.hex Wh.hw (hr.mono (by decide)) Wh.m Wh.kp Wh.b (fun _ _ _ => pv 2) rfl)
abbrev s_law : Stmt := top 33
theorem sc_law : FnScope ["_law_script", "_law_town", "_law_form_here", "_law_text_here", "_law_k", "_law_at", "_law_char", "_law_bent", "_law_told", "_law_bad", "_law_one"] ["_law_script"] (defScope s_law) := ⟨rfl, rfl, rfl, by decide +kernel, rfl, by decide +kernel, by decide +kernel⟩
theorem ok_law {f : Addr} {fd : FuncData} (F : Fun K "law" "law" s_law f fd) (T : TX mg) {a_is_form : Addr} {fd_is_form : FuncData} (D_is_form : Df K mg "is_form" s_is_form ["value"] a_is_form fd_is_form) (G_is_form : FnOk P w K mg base (L2.CX P w) 3 a_is_form fd_is_form ["value"] (spOf ⟨P, w, K⟩ xm 1 f_is_form)) {a__law_draw : Addr} {fd__law_draw : FuncData} (D__law_draw : Df K mg "_law_draw" s__law_draw ["_law_script", "_law_town", "_law_many"] a__law_draw fd__law_draw) (G__law_draw : FnOk P w K mg base (L2.CX P w) 1 a__law_draw fd__law_draw ["_law_script", "_law_town", "_law_many"] (spOf ⟨P, w, K⟩ xm 3 f__law_draw)) {a__law_pick : Addr} {fd__law_pick : FuncData} (D__law_pick : Df K mg "_law_pick" s__law_pick ["_law_script", "_law_town", "_law_some"] a__law_pick fd__law_pick) (G__law_pick : FnOk P w K mg base (L2.CX P w) 2 a__law_pick fd__law_pick ["_law_script", "_law_town", "_law_some"] (spOf ⟨P, w, K⟩ xm 3 f__law_pick)) {a__law_form : Addr} {fd__law_form : FuncData} (D__law_form : Df K mg "_law_form" s__law_form ["_law_script", "_law_town"] a__law_form fd__law_form) (G__law_form : FnOk P w K mg base (L2.CX P w) 4 a__law_form fd__law_form ["_law_script", "_law_town"] (spOf ⟨P, w, K⟩ xm 2 f__law_form)) {a__law_text : Addr} {fd__law_text : FuncData} (D__law_text : Df K mg "_law_text" s__law_text ["_law_form_here"] a__law_text fd__law_text) (G__law_text : FnOk P w K mg base (L2.CX P w) 1 a__law_text fd__law_text ["_law_form_here"] (spOf ⟨P, w, K⟩ xm 1 f__law_text)) {a__law_ask : Addr} {fd__law_ask : FuncData} (D__law_ask : Df K mg "_law_ask" s__law_ask ["_law_what", "_law_value"] a__law_ask fd__law_ask) (G__law_ask : FnOk P w K mg base (L2.CX P w) 6 a__law_ask fd__law_ask ["_law_what", "_law_value"] (spOf ⟨P, w, K⟩ xm 2 f__law_ask)) : FnOk P w K mg base (L2.CX P w) 7 f fd ["_law_script"] (spOf ⟨P, w, K⟩ xm 1 f_law) :=
  fn_ok (N := ["_law_script", "_law_town", "_law_form_here", "_law_text_here", "_law_k", "_law_at", "_law_char", "_law_bent", "_law_told", "_law_bad", "_law_one"]) (m := false) (b := b_law) xm F sc_law fun cdv A outer s H E W hr tk =>
    ss_cons (ss_set (i := 1) sc_law.nd rfl (Or.inl rfl) (se_lst (m := true) (sa_cons (se_int) (sa_cons (se_int) (sa_nil)))))
    (ss_cons (ss_set (i := 2) sc_law.nd rfl (Or.inl rfl) (se_call G__law_form rfl tk (hr.mono (by decide)) D__law_form.m D__law_form.F.kp D__law_form.b (sa_cons (se_var (pv 0)) (sa_cons (se_var (pv 1)) (sa_nil))) (len_cons (len_cons len_nil))))
    (ss_cons (ss_set (i := 3) sc_law.nd rfl (Or.inl rfl) (se_call (fn_pure G__law_text) rfl tk (hr.mono (by decide)) D__law_text.m D__law_text.F.kp D__law_text.b (sa_cons (se_var (pv 2)) (sa_nil)) (len_cons len_nil)))
    (ss_cons (ss_if (st_bool (sw_or (st_cmp (opr_ne hr) ok_ne (se_call (fn_split G__law_ask) rfl tk (hr.mono (by decide)) D__law_ask.m D__law_ask.F.kp D__law_ask.b (sa_cons (se_int) (sa_cons (se_var (pv 2)) (sa_nil))) (len_cons (len_cons len_nil))) (se_var (pv 3))) (sw_or1 (st_cmp (opr_ne hr) ok_ne (se_call (fn_split G__law_ask) rfl tk (hr.mono (by decide)) D__law_ask.m D__law_ask.F.kp D__law_ask.b (sa_cons (se_int) (sa_cons (se_var (pv 3)) (sa_nil))) (len_cons (len_cons len_nil))) (se_var (pv 2)))))) (ss_one (ss_ret (se_bl))) (ss_nil))
    (ss_cons (ss_for (passes_of rfl) rfl (si_range1 (sa_cons (se_int) (sa_nil)) rfl T.n_range) (sg_name (pg_name (i := 4) sc_law.nd rfl (Or.inl rfl))) (ss_cons (ss_set (i := 5) sc_law.nd rfl (Or.inl rfl) (se_call G__law_draw rfl tk (hr.mono (by decide)) D__law_draw.m D__law_draw.F.kp D__law_draw.b (sa_cons (se_var (pv 0)) (sa_cons (se_var (pv 1)) (sa_cons (se_bin opr_add (ok_add (m := false)) (se_callB call_len ok_len (sa_cons (se_var (pv 3)) (sa_nil)) rfl T.n_len bt_len) (se_int)) (sa_nil)))) (len_cons (len_cons (len_cons len_nil)))))
    (ss_cons (ss_set (i := 6) sc_law.nd rfl (Or.inl rfl) (se_call G__law_pick rfl tk (hr.mono (by decide)) D__law_pick.m D__law_pick.F.kp D__law_pick.b (sa_cons (se_var (pv 0)) (sa_cons (se_var (pv 1)) (sa_cons (se_lst (m := false) (sa_cons (se_str) (sa_cons (se_str) (sa_cons (se_str) (sa_cons (se_str) (sa_cons (se_str) (sa_cons (se_str) (sa_cons (se_str) (sa_cons (se_str) (sa_cons (se_str) (sa_nil))))))))))) (sa_nil)))) (len_cons (len_cons (len_cons len_nil)))))
    (ss_cons (ss_set (i := 7) sc_law.nd rfl (Or.inl rfl) (se_bin opr_add (ok_add (m := false)) (se_bin opr_add (ok_add (m := false)) (se_cutS (se_var (pv 3)) (so_none) (so_some (se_var (pv 5)))) (se_var (pv 6))) (se_cutS (se_var (pv 3)) (so_some (se_bin opr_add (ok_add (m := false)) (se_var (pv 5)) (se_call G__law_draw rfl tk (hr.mono (by decide)) D__law_draw.m D__law_draw.F.kp D__law_draw.b (sa_cons (se_var (pv 0)) (sa_cons (se_var (pv 1)) (sa_cons (se_int) (sa_nil)))) (len_cons (len_cons (len_cons len_nil)))))) (so_none))))
    (ss_cons (ss_set (i := 8) sc_law.nd rfl (Or.inl rfl) (se_call (fn_split G__law_ask) rfl tk (hr.mono (by decide)) D__law_ask.m D__law_ask.F.kp D__law_ask.b (sa_cons (se_int) (sa_cons (se_var (pv 7)) (sa_nil))) (len_cons (len_cons len_nil))))
    (ss_one (ss_if (st_bool (sw_and (st_cmp (opr_ne hr) ok_ne (se_var (pv 8)) (se_tup (sa_cons (se_str) (sa_cons (se_int) (sa_nil))))) (sw_and1 (st_bool (sw_or (st_cmp opr_isN ok_isN (se_call (fn_pure G_is_form) rfl tk (hr.mono (by decide)) D_is_form.m D_is_form.F.kp D_is_form.b (sa_cons (se_var (pv 8)) (sa_nil)) (len_cons len_nil)) (se_bl)) (sw_or1 (st_cmp (opr_ne hr) ok_ne (se_call (fn_pure G__law_text) rfl tk (hr.mono (by decide)) D__law_text.m D__law_text.F.kp D__law_text.b (sa_cons (se_var (pv 8)) (sa_nil)) (len_cons len_nil)) (se_var (pv 7))))))))) (ss_one (ss_ret (se_bl))) (ss_nil))))))))
    (ss_cons (ss_set (i := 9) sc_law.nd rfl (Or.inl rfl) (se_lst (m := true) (sa_cons (se_str) (sa_cons (se_str) (sa_cons (se_str) (sa_cons (se_str) (sa_cons (se_str) (sa_cons (se_str) (sa_cons (se_str) (sa_cons (se_str) (sa_cons (se_str) (sa_cons (se_str) (sa_cons (se_str) (sa_cons (se_str) (sa_nil)))))))))))))))
    (ss_cons (ss_expr (se_extend (se_var (pv 9)) (sa_cons (se_lst (m := false) (sa_cons (se_str) (sa_cons (se_str) (sa_cons (se_str) (sa_cons (se_str) (sa_cons (se_str) (sa_nil))))))) (sa_nil))))
    (ss_cons (ss_expr (se_extend (se_var (pv 9)) (sa_cons (se_lst (m := false) (sa_cons (se_str) (sa_cons (se_str) (sa_cons (se_str) (sa_cons (se_str) (sa_cons (se_str) (sa_cons (se_non) (sa_cons (se_int) (sa_cons (se_lst (m := false) (sa_cons (se_str) (sa_nil))) (sa_cons (se_str) (sa_nil))))))))))) (sa_nil))))
    (ss_cons (ss_if (st_cmp (opr_ne hr) ok_ne (se_lcD (m := false) (own := [("_law_one", 10)]) rfl sc_law.nd (blkOk_by (N := ["_law_script", "_law_town", "_law_form_here", "_law_text_here", "_law_k", "_law_at", "_law_char", "_law_bent", "_law_told", "_law_bad", "_law_one"]) (sc := defScope s_law) (by decide +kernel)) (by decide) (se_var (pv 9)) (fun _ _ _ _ _ => pg_name (i := 10) sc_law.nd rfl (Or.inl rfl)) tgk_name (fun _ _ _ _ _ => se_call (fn_split G__law_ask) rfl takes0 (hr.mono (by decide)) D__law_ask.m D__law_ask.F.kp D__law_ask.b (sa_cons (se_int) (sa_cons (se_var (pv 10)) (sa_nil))) (len_cons (len_cons len_nil)))) (se_bin opr_mul (ok_mul (m := false)) (se_lst (m := false) (sa_cons (se_tup (sa_cons (se_str) (sa_cons (se_int) (sa_nil)))) (sa_nil))) (se_callB call_len ok_len (sa_cons (se_var (pv 9)) (sa_nil)) rfl T.n_len bt_len))) (ss_one (ss_ret (se_bl))) (ss_nil))
    (ss_cons (ss_if (st_cmp (opr_ne hr) ok_ne (se_call (fn_split G__law_ask) rfl tk (hr.mono (by decide)) D__law_ask.m D__law_ask.F.kp D__law_ask.b (sa_cons (se_int) (sa_cons (se_str) (sa_nil))) (len_cons (len_cons len_nil))) (se_tup (sa_cons (se_tup (sa_cons (se_int) (sa_cons (se_int) (sa_cons (se_non) (sa_nil))))) (sa_cons (se_tup (sa_cons (se_int) (sa_cons (se_int) (sa_cons (se_int) (sa_nil))))) (sa_cons (se_tup (sa_cons (se_int) (sa_cons (se_int) (sa_cons (se_non) (sa_nil))))) (sa_nil)))))) (ss_one (ss_ret (se_bl))) (ss_nil))
    (ss_one (ss_ret (se_cmp (opr_eq hr) ok_eq (se_lc (m := false) (own := [("_law_one", 10)]) rfl sc_law.nd (blkOk_by (N := ["_law_script", "_law_town", "_law_form_here", "_law_text_here", "_law_k", "_law_at", "_law_char", "_law_bent", "_law_told", "_law_bad", "_law_one"]) (sc := defScope s_law) (by decide +kernel)) (by decide) (si_seq (se_tup (sa_cons (se_non) (sa_cons (se_tup (sa_nil)) (sa_cons (se_var (pv 3)) (sa_cons (se_callTy call_list_of (ok_list (m := false)) (sa_cons (se_var (pv 2)) (sa_nil)) rfl T.n_list bt_list) (sa_cons (se_bin opr_add (ok_add (m := false)) (se_var (pv 2)) (se_tup (sa_cons (se_tup (sa_cons (se_int) (sa_nil))) (sa_nil)))) (sa_nil)))))))) (fun _ _ _ _ _ => pg_name (i := 10) sc_law.nd rfl (Or.inl rfl)) tgk_name (fun _ _ _ _ _ => spt_nil) (fun _ _ _ _ _ => se_call (fn_split G__law_ask) rfl takes0 (hr.mono (by decide)) D__law_ask.m D__law_ask.F.kp D__law_ask.b (sa_cons (se_int) (sa_cons (se_var (pv 10)) (sa_nil))) (len_cons (len_cons len_nil)))) (se_bin opr_mul (ok_mul (m := false)) (se_lst (m := false) (sa_cons (se_tup (sa_cons (se_str) (sa_cons (se_int) (sa_nil)))) (sa_nil))) (se_int))))))))))))))
theorem all_mk {l : PySem.W.OpenLaw} {h : Heap} {fa : Addr} (X : K.In h) (G : h.Ns mainGlobals mg) (hfa : mg "law" = some (.ref fa)) {f1 : Addr} {od1 an1 : Option Addr} {sl1 : Array (Option Value)} {oc1 kV1 dc1 pm1 cd1 ct1 : Value} {f2 : Addr} {od2 an2 : Option Addr} {sl2 : Array (Option Value)} {oc2 kV2 dc2 pm2 cd2 ct2 : Value} {f3 : Addr} {od3 an3 : Option Addr} {sl3 : Array (Option Value)} {oc3 kV3 dc3 pm3 cd3 ct3 : Value} {f4 : Addr} {od4 an4 : Option Addr} {sl4 : Array (Option Value)} {oc4 kV4 dc4 pm4 cd4 ct4 : Value} {f5 : Addr} {od5 an5 : Option Addr} {sl5 : Array (Option Value)} {oc5 kV5 dc5 pm5 cd5 ct5 : Value} {f6 : Addr} {od6 an6 : Option Addr} {sl6 : Array (Option Value)} {oc6 kV6 dc6 pm6 cd6 ct6 : Value} {f7 : Addr} {od7 an7 : Option Addr} {sl7 : Array (Option Value)} {oc7 kV7 dc7 pm7 cd7 ct7 : Value} {f8 : Addr} {od8 an8 : Option Addr} {sl8 : Array (Option Value)} {oc8 kV8 dc8 pm8 cd8 ct8 : Value} {f9 : Addr} {od9 an9 : Option Addr} {sl9 : Array (Option Value)} {oc9 kV9 dc9 pm9 cd9 ct9 : Value} {f10 : Addr} {od10 an10 : Option Addr} {sl10 : Array (Option Value)} {oc10 kV10 dc10 pm10 cd10 ct10 : Value} {f11 : Addr} {od11 an11 : Option Addr} {sl11 : Array (Option Value)} {oc11 kV11 dc11 pm11 cd11 ct11 : Value} {f12 : Addr} {od12 an12 : Option Addr} {sl12 : Array (Option Value)} {oc12 kV12 dc12 pm12 cd12 ct12 : Value} {f13 : Addr} {od13 an13 : Option Addr} {sl13 : Array (Option Value)} {oc13 kV13 dc13 pm13 cd13 ct13 : Value} {f14 : Addr} {od14 an14 : Option Addr} {sl14 : Array (Option Value)} {oc14 kV14 dc14 pm14 cd14 ct14 : Value} {f15 : Addr} {od15 an15 : Option Addr} {sl15 : Array (Option Value)} {oc15 kV15 dc15 pm15 cd15 ct15 : Value} {f16 : Addr} {od16 an16 : Option Addr} {sl16 : Array (Option Value)} {oc16 kV16 dc16 pm16 cd16 ct16 : Value} {f17 : Addr} {od17 an17 : Option Addr} {sl17 : Array (Option Value)} {oc17 kV17 dc17 pm17 cd17 ct17 : Value} {X0 : Addr} {X1 : Addr} {X2 : Addr} {X3 : Addr} {X4 : Addr} {X5 : Addr} {X6 : Addr} {SE : Addr} (a1 : PySem.W.nsIn K mainGlobals "is_count" = some (some (.ref f1))) (l1 : K.lookup f1 = some ⟨oc1, od1, .func (PySem.W.fnOf "is_count" "is_count" (defArgs s_is_count) (defBody s_is_count) (defScope s_is_count) .none kV1 dc1 pm1 an1 cd1 ct1), sl1⟩) (c1 : PySem.W.codeIn K cd1 "is_count" = true) (k1 : PySem.W.keepIn K (.ref f1) = true) (a2 : PySem.W.nsIn K mainGlobals "formatted" = some (some (.ref f2))) (l2 : K.lookup f2 = some ⟨oc2, od2, .func (PySem.W.fnOf "formatted" "formatted" (defArgs s_formatted) (defBody s_formatted) (defScope s_formatted) .none kV2 dc2 pm2 an2 cd2 ct2), sl2⟩) (c2 : PySem.W.codeIn K cd2 "formatted" = true) (k2 : PySem.W.keepIn K (.ref f2) = true) (a3 : PySem.W.nsIn K mainGlobals "number_of" = some (some (.ref f3))) (l3 : K.lookup f3 = some ⟨oc3, od3, .func (PySem.W.fnOf "number_of" "number_of" (defArgs s_number_of) (defBody s_number_of) (defScope s_number_of) .none kV3 dc3 pm3 an3 cd3 ct3), sl3⟩) (c3 : PySem.W.codeIn K cd3 "number_of" = true) (k3 : PySem.W.keepIn K (.ref f3) = true) (a4 : PySem.W.nsIn K mainGlobals "_law_draw" = some (some (.ref f4))) (l4 : K.lookup f4 = some ⟨oc4, od4, .func (PySem.W.fnOf "_law_draw" "_law_draw" (defArgs s__law_draw) (defBody s__law_draw) (defScope s__law_draw) .none kV4 dc4 pm4 an4 cd4 ct4), sl4⟩) (c4 : PySem.W.codeIn K cd4 "_law_draw" = true) (k4 : PySem.W.keepIn K (.ref f4) = true) (a5 : PySem.W.nsIn K mainGlobals "_law_which" = some (some (.ref f5))) (l5 : K.lookup f5 = some ⟨oc5, od5, .func (PySem.W.fnOf "_law_which" "_law_which" (defArgs s__law_which) (defBody s__law_which) (defScope s__law_which) .none kV5 dc5 pm5 an5 cd5 ct5), sl5⟩) (c5 : PySem.W.codeIn K cd5 "_law_which" = true) (k5 : PySem.W.keepIn K (.ref f5) = true) (a6 : PySem.W.nsIn K mainGlobals "_law_text" = some (some (.ref f6))) (l6 : K.lookup f6 = some ⟨oc6, od6, .func (PySem.W.fnOf "_law_text" "_law_text" (defArgs s__law_text) (defBody s__law_text) (defScope s__law_text) .none kV6 dc6 pm6 an6 cd6 ct6), sl6⟩) (c6 : PySem.W.codeIn K cd6 "_law_text" = true) (k6 : PySem.W.keepIn K (.ref f6) = true) (a7 : PySem.W.nsIn K mainGlobals "is_level" = some (some (.ref f7))) (l7 : K.lookup f7 = some ⟨oc7, od7, .func (PySem.W.fnOf "is_level" "is_level" (defArgs s_is_level) (defBody s_is_level) (defScope s_is_level) .none kV7 dc7 pm7 an7 cd7 ct7), sl7⟩) (c7 : PySem.W.codeIn K cd7 "is_level" = true) (k7 : PySem.W.keepIn K (.ref f7) = true) (a8 : PySem.W.nsIn K mainGlobals "parsed_level" = some (some (.ref f8))) (l8 : K.lookup f8 = some ⟨oc8, od8, .func (PySem.W.fnOf "parsed_level" "parsed_level" (defArgs s_parsed_level) (defBody s_parsed_level) (defScope s_parsed_level) .none kV8 dc8 pm8 an8 cd8 ct8), sl8⟩) (c8 : PySem.W.codeIn K cd8 "parsed_level" = true) (k8 : PySem.W.keepIn K (.ref f8) = true) (a9 : PySem.W.nsIn K mainGlobals "_law_pick" = some (some (.ref f9))) (l9 : K.lookup f9 = some ⟨oc9, od9, .func (PySem.W.fnOf "_law_pick" "_law_pick" (defArgs s__law_pick) (defBody s__law_pick) (defScope s__law_pick) .none kV9 dc9 pm9 an9 cd9 ct9), sl9⟩) (c9 : PySem.W.codeIn K cd9 "_law_pick" = true) (k9 : PySem.W.keepIn K (.ref f9) = true) (a10 : PySem.W.nsIn K mainGlobals "is_form" = some (some (.ref f10))) (l10 : K.lookup f10 = some ⟨oc10, od10, .func (PySem.W.fnOf "is_form" "is_form" (defArgs s_is_form) (defBody s_is_form) (defScope s_is_form) .none kV10 dc10 pm10 an10 cd10 ct10), sl10⟩) (c10 : PySem.W.codeIn K cd10 "is_form" = true) (k10 : PySem.W.keepIn K (.ref f10) = true) (a11 : PySem.W.nsIn K mainGlobals "_law_level" = some (some (.ref f11))) (l11 : K.lookup f11 = some ⟨oc11, od11, .func (PySem.W.fnOf "_law_level" "_law_level" (defArgs s__law_level) (defBody s__law_level) (defScope s__law_level) .none kV11 dc11 pm11 an11 cd11 ct11), sl11⟩) (c11 : PySem.W.codeIn K cd11 "_law_level" = true) (k11 : PySem.W.keepIn K (.ref f11) = true) (a12 : PySem.W.nsIn K mainGlobals "need_form" = some (some (.ref f12))) (l12 : K.lookup f12 = some ⟨oc12, od12, .func (PySem.W.fnOf "need_form" "need_form" (defArgs s_need_form) (defBody s_need_form) (defScope s_need_form) .none kV12 dc12 pm12 an12 cd12 ct12), sl12⟩) (c12 : PySem.W.codeIn K cd12 "need_form" = true) (k12 : PySem.W.keepIn K (.ref f12) = true) (a13 : PySem.W.nsIn K mainGlobals "parse_form" = some (some (.ref f13))) (l13 : K.lookup f13 = some ⟨oc13, od13, .func (PySem.W.fnOf "parse_form" "parse_form" (defArgs s_parse_form) (defBody s_parse_form) (defScope s_parse_form) .none kV13 dc13 pm13 an13 cd13 ct13), sl13⟩) (c13 : PySem.W.codeIn K cd13 "parse_form" = true) (k13 : PySem.W.keepIn K (.ref f13) = true) (a14 : PySem.W.nsIn K mainGlobals "_law_form" = some (some (.ref f14))) (l14 : K.lookup f14 = some ⟨oc14, od14, .func (PySem.W.fnOf "_law_form" "_law_form" (defArgs s__law_form) (defBody s__law_form) (defScope s__law_form) .none kV14 dc14 pm14 an14 cd14 ct14), sl14⟩) (c14 : PySem.W.codeIn K cd14 "_law_form" = true) (k14 : PySem.W.keepIn K (.ref f14) = true) (a15 : PySem.W.nsIn K mainGlobals "format_form" = some (some (.ref f15))) (l15 : K.lookup f15 = some ⟨oc15, od15, .func (PySem.W.fnOf "format_form" "format_form" (defArgs s_format_form) (defBody s_format_form) (defScope s_format_form) .none kV15 dc15 pm15 an15 cd15 ct15), sl15⟩) (c15 : PySem.W.codeIn K cd15 "format_form" = true) (k15 : PySem.W.keepIn K (.ref f15) = true) (a16 : PySem.W.nsIn K mainGlobals "_law_ask" = some (some (.ref f16))) (l16 : K.lookup f16 = some ⟨oc16, od16, .func (PySem.W.fnOf "_law_ask" "_law_ask" (defArgs s__law_ask) (defBody s__law_ask) (defScope s__law_ask) .none kV16 dc16 pm16 an16 cd16 ct16), sl16⟩) (c16 : PySem.W.codeIn K cd16 "_law_ask" = true) (k16 : PySem.W.keepIn K (.ref f16) = true) (a17 : PySem.W.nsIn K mainGlobals "law" = some (some (.ref f17))) (l17 : K.lookup f17 = some ⟨oc17, od17, .func (PySem.W.fnOf "law" "law" (defArgs s_law) (defBody s_law) (defScope s_law) .none kV17 dc17 pm17 an17 cd17 ct17), sl17⟩) (c17 : PySem.W.codeIn K cd17 "law" = true) (k17 : PySem.W.keepIn K (.ref f17) = true) (aX0 : PySem.W.nsIn K mainGlobals "InvalidForm" = some (some (.ref X0))) (dX0 : PySem.W.hasDictIn K X0 = true) (tX0 : PySem.W.typeIn K (.ref X0) = some (.type "type")) (aX1 : PySem.W.nsIn K mainGlobals "InvalidRow" = some (some (.ref X1))) (dX1 : PySem.W.hasDictIn K X1 = true) (tX1 : PySem.W.typeIn K (.ref X1) = some (.type "type")) (aX2 : PySem.W.nsIn K mainGlobals "InvalidSide" = some (some (.ref X2))) (dX2 : PySem.W.hasDictIn K X2 = true) (tX2 : PySem.W.typeIn K (.ref X2) = some (.type "type")) (aX3 : PySem.W.nsIn K mainGlobals "InvalidChance" = some (some (.ref X3))) (dX3 : PySem.W.hasDictIn K X3 = true) (tX3 : PySem.W.typeIn K (.ref X3) = some (.type "type")) (aX4 : PySem.W.nsIn K mainGlobals "Over" = some (some (.ref X4))) (dX4 : PySem.W.hasDictIn K X4 = true) (tX4 : PySem.W.typeIn K (.ref X4) = some (.type "type")) (aX5 : PySem.W.nsIn K mainGlobals "NothingToUndo" = some (some (.ref X5))) (dX5 : PySem.W.hasDictIn K X5 = true) (tX5 : PySem.W.typeIn K (.ref X5) = some (.type "type")) (aX6 : PySem.W.nsIn K mainGlobals "InvalidFormat" = some (some (.ref X6))) (dX6 : PySem.W.hasDictIn K X6 = true) (tX6 : PySem.W.typeIn K (.ref X6) = some (.type "type")) (xX0 : PySem.W.excIn K X0 [.type "ValueError", .type "Exception", .type "BaseException", .type "object"] "ValueError.__new__" = true) (kX0 : PySem.W.keepIn K (.ref X0) = true) (bX0 : PySem.W.subIn K (.ref X0) (.type "BaseException") = some true) (xX6 : PySem.W.excIn K X6 [.type "ValueError", .type "Exception", .type "BaseException", .type "object"] "ValueError.__new__" = true) (kX6 : PySem.W.keepIn K (.ref X6) = true) (bX6 : PySem.W.subIn K (.ref X6) (.type "BaseException") = some true) (aS : PySem.W.nsIn K mainGlobals "ScoreError" = some (some (.ref SE))) (bS : PySem.W.subIn K (.ref SE) (.type "BaseException") = some true) (hS : PySem.W.hasDictIn K SE = true) (tS : PySem.W.typeIn K (.ref SE) = some (.type "type")) (hn0 : PySem.W.specialIn K (.builtin "object.__class__") "__get__" = some (some (.builtin "getset_descriptor.__get__"))) (ht0 : PySem.W.takesIn K (.builtin "object.__class__") = some true) (gX0 : PySem.W.findIn K (.ref X0) "__getattribute__" = some (some (.builtin "BaseException.__getattribute__"))) (qX0 : PySem.W.findIn K (.ref X0) "__getattr__" = some none) (hX0 : PySem.W.findIn K (.ref X0) "__class__" = some (some (.builtin "object.__class__"))) (mX0 : PySem.W.mroIn K X0 (.type "object") = some true) (sX0 : PySem.W.subIn K (.ref X0) (.ref SE) = some true) (vX0 : PySem.W.subIn K (.ref X0) (.type "ValueError") = some true) (e0X0 : PySem.W.subIn K (.ref X0) (.ref X0) = some true) (e1X0 : PySem.W.subIn K (.ref X0) (.ref X1) = some false) (e2X0 : PySem.W.subIn K (.ref X0) (.ref X2) = some false) (e3X0 : PySem.W.subIn K (.ref X0) (.ref X3) = some false) (e4X0 : PySem.W.subIn K (.ref X0) (.ref X4) = some false) (e5X0 : PySem.W.subIn K (.ref X0) (.ref X5) = some false) (e6X0 : PySem.W.subIn K (.ref X0) (.ref X6) = some false) (gX6 : PySem.W.findIn K (.ref X6) "__getattribute__" = some (some (.builtin "BaseException.__getattribute__"))) (qX6 : PySem.W.findIn K (.ref X6) "__getattr__" = some none) (hX6 : PySem.W.findIn K (.ref X6) "__class__" = some (some (.builtin "object.__class__"))) (mX6 : PySem.W.mroIn K X6 (.type "object") = some true) (sX6 : PySem.W.subIn K (.ref X6) (.ref SE) = some true) (vX6 : PySem.W.subIn K (.ref X6) (.type "ValueError") = some true) (e0X6 : PySem.W.subIn K (.ref X6) (.ref X0) = some false) (e1X6 : PySem.W.subIn K (.ref X6) (.ref X1) = some false) (e2X6 : PySem.W.subIn K (.ref X6) (.ref X2) = some false) (e3X6 : PySem.W.subIn K (.ref X6) (.ref X3) = some false) (e4X6 : PySem.W.subIn K (.ref X6) (.ref X4) = some false) (e5X6 : PySem.W.subIn K (.ref X6) (.ref X5) = some false) (e6X6 : PySem.W.subIn K (.ref X6) (.ref X6) = some true) (z_ValueError : PySem.W.nsIn K mainGlobals "ValueError" = some none) (z_all : PySem.W.nsIn K mainGlobals "all" = some none) (z_bool : PySem.W.nsIn K mainGlobals "bool" = some none) (z_int : PySem.W.nsIn K mainGlobals "int" = some none) (z_isinstance : PySem.W.nsIn K mainGlobals "isinstance" = some none) (z_len : PySem.W.nsIn K mainGlobals "len" = some none) (z_list : PySem.W.nsIn K mainGlobals "list" = some none) (z_range : PySem.W.nsIn K mainGlobals "range" = some none) (z_str : PySem.W.nsIn K mainGlobals "str" = some none) (z_tuple : PySem.W.nsIn K mainGlobals "tuple" = some none) {t_TARGET : Tok} (z_TARGET : PySem.W.nsIn K mainGlobals "TARGET" = some (some (.int 5 t_TARGET))) {t_LEAD : Tok} (z_LEAD : PySem.W.nsIn K mainGlobals "LEAD" = some (some (.int 3 t_LEAD))) {t_CAP : Tok} (z_CAP : PySem.W.nsIn K mainGlobals "CAP" = some (some (.int 9 t_CAP))) {t_LEVELS : Tok} (z_LEVELS : PySem.W.nsIn K mainGlobals "LEVELS" = some (some (.int 3 t_LEVELS))) {t_DIGITS : Tok} (z_DIGITS : PySem.W.nsIn K mainGlobals "DIGITS" = some (some (.str "0123456789" t_DIGITS))) :
    ∃ fd : FuncData, (∀ (s : Shared) (v : Value), BindsTo s fd ⟨[v], []⟩ [("_law_script", v)]) ∧ ∀ base : Heap, K.In base → base.Ns mainGlobals mg → FnOk l.prog w K mg base (L2.CX l.prog w) 7 fa fd ["_law_script"] (spOf ⟨l.prog, w, K⟩ (xmOf K) 1 f_law) := by
  have e := hfa.symm.trans (PySem.W.mg_of X G a17)
  cases e
  have T : TX mg := ⟨PySem.W.mg_none_of X G z_ValueError, PySem.W.mg_none_of X G z_all, PySem.W.mg_none_of X G z_bool, PySem.W.mg_none_of X G z_int, PySem.W.mg_none_of X G z_isinstance, PySem.W.mg_none_of X G z_len, PySem.W.mg_none_of X G z_list, PySem.W.mg_none_of X G z_range, PySem.W.mg_none_of X G z_str, PySem.W.mg_none_of X G z_tuple, ⟨_, PySem.W.mg_of X G z_TARGET⟩, ⟨_, PySem.W.mg_of X G z_LEAD⟩, ⟨_, PySem.W.mg_of X G z_CAP⟩, ⟨_, PySem.W.mg_of X G z_LEVELS⟩, ⟨_, PySem.W.mg_of X G z_DIGITS⟩⟩
  have x0 : xmOf K 0 = .ref X0 := xm_of aX0
  have E0 : EC K mg (xmOf K) "InvalidForm" 0 X0 := ⟨PySem.W.mg_of X G aX0, x0, xX0, kX0, bX0, tX0⟩
  have x6 : xmOf K 6 = .ref X6 := xm_of aX6
  have E6 : EC K mg (xmOf K) "InvalidFormat" 6 X6 := ⟨PySem.W.mg_of X G aX6, x6, xX6, kX6, bX6, tX6⟩
  have F1 := fun_mk (st := s_is_count) l1 c1 k1
  have D1 : Df K mg "is_count" s_is_count ["value", "least", "most"] _ _ := ⟨F1, PySem.W.mg_of X G a1, F1.binds (ps := ["value", "least", "most"]) fun _ _ _ _ _ _ us hl => match us, hl with | [_, _, _], _ => rfl⟩
  have F2 := fun_mk (st := s_formatted) l2 c2 k2
  have D2 : Df K mg "formatted" s_formatted ["form"] _ _ := ⟨F2, PySem.W.mg_of X G a2, F2.binds (ps := ["form"]) fun _ _ _ _ _ _ us hl => match us, hl with | [_], _ => rfl⟩
  have F3 := fun_mk (st := s_number_of) l3 c3 k3
  have D3 : Df K mg "number_of" s_number_of ["text"] _ _ := ⟨F3, PySem.W.mg_of X G a3, F3.binds (ps := ["text"]) fun _ _ _ _ _ _ us hl => match us, hl with | [_], _ => rfl⟩
  have F4 := fun_mk (st := s__law_draw) l4 c4 k4
  have D4 : Df K mg "_law_draw" s__law_draw ["_law_script", "_law_town", "_law_many"] _ _ := ⟨F4, PySem.W.mg_of X G a4, F4.binds (ps := ["_law_script", "_law_town", "_law_many"]) fun _ _ _ _ _ _ us hl => match us, hl with | [_, _, _], _ => rfl⟩
  have F5 := fun_mk (st := s__law_which) l5 c5 k5
  have D5 : Df K mg "_law_which" s__law_which ["_law_error"] _ _ := ⟨F5, PySem.W.mg_of X G a5, F5.binds (ps := ["_law_error"]) fun _ _ _ _ _ _ us hl => match us, hl with | [_], _ => rfl⟩
  have F6 := fun_mk (st := s__law_text) l6 c6 k6
  have D6 : Df K mg "_law_text" s__law_text ["_law_form_here"] _ _ := ⟨F6, PySem.W.mg_of X G a6, F6.binds (ps := ["_law_form_here"]) fun _ _ _ _ _ _ us hl => match us, hl with | [_], _ => rfl⟩
  have F7 := fun_mk (st := s_is_level) l7 c7 k7
  have D7 : Df K mg "is_level" s_is_level ["value"] _ _ := ⟨F7, PySem.W.mg_of X G a7, F7.binds (ps := ["value"]) fun _ _ _ _ _ _ us hl => match us, hl with | [_], _ => rfl⟩
  have F8 := fun_mk (st := s_parsed_level) l8 c8 k8
  have D8 : Df K mg "parsed_level" s_parsed_level ["word"] _ _ := ⟨F8, PySem.W.mg_of X G a8, F8.binds (ps := ["word"]) fun _ _ _ _ _ _ us hl => match us, hl with | [_], _ => rfl⟩
  have F9 := fun_mk (st := s__law_pick) l9 c9 k9
  have D9 : Df K mg "_law_pick" s__law_pick ["_law_script", "_law_town", "_law_some"] _ _ := ⟨F9, PySem.W.mg_of X G a9, F9.binds (ps := ["_law_script", "_law_town", "_law_some"]) fun _ _ _ _ _ _ us hl => match us, hl with | [_, _, _], _ => rfl⟩
  have F10 := fun_mk (st := s_is_form) l10 c10 k10
  have D10 : Df K mg "is_form" s_is_form ["value"] _ _ := ⟨F10, PySem.W.mg_of X G a10, F10.binds (ps := ["value"]) fun _ _ _ _ _ _ us hl => match us, hl with | [_], _ => rfl⟩
  have F11 := fun_mk (st := s__law_level) l11 c11 k11
  have D11 : Df K mg "_law_level" s__law_level ["_law_script", "_law_town", "_law_most"] _ _ := ⟨F11, PySem.W.mg_of X G a11, F11.binds (ps := ["_law_script", "_law_town", "_law_most"]) fun _ _ _ _ _ _ us hl => match us, hl with | [_, _, _], _ => rfl⟩
  have F12 := fun_mk (st := s_need_form) l12 c12 k12
  have D12 : Df K mg "need_form" s_need_form ["value"] _ _ := ⟨F12, PySem.W.mg_of X G a12, F12.binds (ps := ["value"]) fun _ _ _ _ _ _ us hl => match us, hl with | [_], _ => rfl⟩
  have F13 := fun_mk (st := s_parse_form) l13 c13 k13
  have D13 : Df K mg "parse_form" s_parse_form ["text"] _ _ := ⟨F13, PySem.W.mg_of X G a13, F13.binds (ps := ["text"]) fun _ _ _ _ _ _ us hl => match us, hl with | [_], _ => rfl⟩
  have F14 := fun_mk (st := s__law_form) l14 c14 k14
  have D14 : Df K mg "_law_form" s__law_form ["_law_script", "_law_town"] _ _ := ⟨F14, PySem.W.mg_of X G a14, F14.binds (ps := ["_law_script", "_law_town"]) fun _ _ _ _ _ _ us hl => match us, hl with | [_, _], _ => rfl⟩
  have F15 := fun_mk (st := s_format_form) l15 c15 k15
  have D15 : Df K mg "format_form" s_format_form ["form"] _ _ := ⟨F15, PySem.W.mg_of X G a15, F15.binds (ps := ["form"]) fun _ _ _ _ _ _ us hl => match us, hl with | [_], _ => rfl⟩
  have F16 := fun_mk (st := s__law_ask) l16 c16 k16
  have D16 : Df K mg "_law_ask" s__law_ask ["_law_what", "_law_value"] _ _ := ⟨F16, PySem.W.mg_of X G a16, F16.binds (ps := ["_law_what", "_law_value"]) fun _ _ _ _ _ _ us hl => match us, hl with | [_, _], _ => rfl⟩
  have F17 := fun_mk (st := s_law) l17 c17 k17
  have D17 : Df K mg "law" s_law ["_law_script"] _ _ := ⟨F17, PySem.W.mg_of X G a17, F17.binds (ps := ["_law_script"]) fun _ _ _ _ _ _ us hl => match us, hl with | [_], _ => rfl⟩
  refine ⟨PySem.W.fnOf "law" "law" (defArgs s_law) (defBody s_law) (defScope s_law) .none kV17 dc17 pm17 an17 cd17 ct17, fun s v => .of_eq rfl, fun base _ _ => ?_⟩
  have Q0 : XF K mg 0 X0 := ⟨⟨gX0, qX0, bX0, dX0, hX0, hn0, ht0, mX0⟩, fun j hj => (match j, hj with | 0, _ => ⟨X0, PySem.W.mg_of X G aX0, kit_sub dX0 tX0 e0X0 e0X0⟩ | 1, _ => ⟨X1, PySem.W.mg_of X G aX1, kit_sub dX1 tX1 e0X0 e1X0⟩ | 2, _ => ⟨X2, PySem.W.mg_of X G aX2, kit_sub dX2 tX2 e0X0 e2X0⟩ | 3, _ => ⟨X3, PySem.W.mg_of X G aX3, kit_sub dX3 tX3 e0X0 e3X0⟩ | 4, _ => ⟨X4, PySem.W.mg_of X G aX4, kit_sub dX4 tX4 e0X0 e4X0⟩ | 5, _ => ⟨X5, PySem.W.mg_of X G aX5, kit_sub dX5 tX5 e0X0 e5X0⟩ | 6, _ => ⟨X6, PySem.W.mg_of X G aX6, kit_sub dX6 tX6 e0X0 e6X0⟩), kit_ve vX0⟩
  have R0 := ok_which (P := l.prog) (w := w) (base := base) l5 c5 T (c := 0) (by decide) x0 Q0
  have Q6 : XF K mg 6 X6 := ⟨⟨gX6, qX6, bX6, dX6, hX6, hn0, ht0, mX6⟩, fun j hj => (match j, hj with | 0, _ => ⟨X0, PySem.W.mg_of X G aX0, kit_sub dX0 tX0 e6X6 e0X6⟩ | 1, _ => ⟨X1, PySem.W.mg_of X G aX1, kit_sub dX1 tX1 e6X6 e1X6⟩ | 2, _ => ⟨X2, PySem.W.mg_of X G aX2, kit_sub dX2 tX2 e6X6 e2X6⟩ | 3, _ => ⟨X3, PySem.W.mg_of X G aX3, kit_sub dX3 tX3 e6X6 e3X6⟩ | 4, _ => ⟨X4, PySem.W.mg_of X G aX4, kit_sub dX4 tX4 e6X6 e4X6⟩ | 5, _ => ⟨X5, PySem.W.mg_of X G aX5, kit_sub dX5 tX5 e6X6 e5X6⟩ | 6, _ => ⟨X6, PySem.W.mg_of X G aX6, kit_sub dX6 tX6 e6X6 e6X6⟩), kit_ve vX6⟩
  have R6 := ok_which (P := l.prog) (w := w) (base := base) l5 c5 T (c := 6) (by decide) x6 Q6
  have Wh : Whs l.prog w K mg base (xmOf K) [0, 6] 1 _ _ SE := ⟨by intro c hc; simp only [List.contains_cons, List.contains_nil, Bool.or_false, Bool.or_eq_true, beq_iff_eq] at hc; (rcases hc with rfl | rfl) <;> first | exact R0 | exact R6, D5.m, D5.F.kp, D5.b, PySem.W.mg_of X G aS, by intro c hc; simp only [List.contains_cons, List.contains_nil, Bool.or_false, Bool.or_eq_true, beq_iff_eq] at hc; (rcases hc with rfl | rfl) <;> first | exact (by rw [x0]; exact PySem.W.exm_ref bS hS tS sX0) | exact (by rw [x6]; exact PySem.W.exm_ref bS hS tS sX6)⟩
  have G1 : FnOk l.prog w K mg base (L2.CX l.prog w) _ _ _ _ (spOf ⟨l.prog, w, K⟩ (xmOf K) _ f_is_count) := ok_is_count F1 T
  have G2 : FnOk l.prog w K mg base (L2.CX l.prog w) _ _ _ _ (spOf ⟨l.prog, w, K⟩ (xmOf K) _ f_formatted) := ok_formatted F2 T
  have G3 : FnOk l.prog w K mg base (L2.CX l.prog w) _ _ _ _ (spOf ⟨l.prog, w, K⟩ (xmOf K) _ f_number_of) := ok_number_of F3 T
  have G4 : FnOk l.prog w K mg base (L2.CX l.prog w) _ _ _ _ (spOf ⟨l.prog, w, K⟩ (xmOf K) _ f__law_draw) := ok__law_draw F4 T
  have G6 : FnOk l.prog w K mg base (L2.CX l.prog w) _ _ _ _ (spOf ⟨l.prog, w, K⟩ (xmOf K) _ f__law_text) := ok__law_text F6 T
  have G7 : FnOk l.prog w K mg base (L2.CX l.prog w) _ _ _ _ (spOf ⟨l.prog, w, K⟩ (xmOf K) _ f_is_level) := ok_is_level F7 T D1 G1
  have G8 : FnOk l.prog w K mg base (L2.CX l.prog w) _ _ _ _ (spOf ⟨l.prog, w, K⟩ (xmOf K) _ f_parsed_level) := ok_parsed_level F8 T D3 G3
  have G9 : FnOk l.prog w K mg base (L2.CX l.prog w) _ _ _ _ (spOf ⟨l.prog, w, K⟩ (xmOf K) _ f__law_pick) := ok__law_pick F9 T D4 G4
  have G10 : FnOk l.prog w K mg base (L2.CX l.prog w) _ _ _ _ (spOf ⟨l.prog, w, K⟩ (xmOf K) _ f_is_form) := ok_is_form F10 T D7 G7
  have G11 : FnOk l.prog w K mg base (L2.CX l.prog w) _ _ _ _ (spOf ⟨l.prog, w, K⟩ (xmOf K) _ f__law_level) := ok__law_level F11 T D4 G4 D9 G9
  have G12 : FnOk l.prog w K mg base (L2.CX l.prog w) _ _ _ _ (spOf ⟨l.prog, w, K⟩ (xmOf K) _ f_need_form) := ok_need_form F12 T E0 D10 G10
  have G13 : FnOk l.prog w K mg base (L2.CX l.prog w) _ _ _ _ (spOf ⟨l.prog, w, K⟩ (xmOf K) _ f_parse_form) := ok_parse_form F13 T E6 D10 G10 D2 G2 D8 G8
  have G14 : FnOk l.prog w K mg base (L2.CX l.prog w) _ _ _ _ (spOf ⟨l.prog, w, K⟩ (xmOf K) _ f__law_form) := ok__law_form F14 T D9 G9 D11 G11
  have G15 : FnOk l.prog w K mg base (L2.CX l.prog w) _ _ _ _ (spOf ⟨l.prog, w, K⟩ (xmOf K) _ f_format_form) := ok_format_form F15 T D12 G12 D2 G2
  have G16 : FnOk l.prog w K mg base (L2.CX l.prog w) _ _ _ _ (spOf ⟨l.prog, w, K⟩ (xmOf K) _ f__law_ask) := ok__law_ask F16 T Wh D15 G15 D13 G13
  have G17 : FnOk l.prog w K mg base (L2.CX l.prog w) _ _ _ _ (spOf ⟨l.prog, w, K⟩ (xmOf K) _ f_law) := ok_law F17 T D10 G10 D4 G4 D9 G9 D14 G14 D6 G6 D16 G16
  exact G17
end
end Sf
end

section
set_option Elab.async false
set_option maxRecDepth 100000
open PySem PySem.W PyProof.Rows
set_option maxRecDepth 100000 in
set_option maxHeartbeats 0 in
theorem PySem.Challenge.cw_scoreforms_k12_whole_formats_holds : PySem.Challenge.rw_scoreforms_k12_whole_formats.Holds := by
  w_on; o_law; k_head; (case hw => w_witness2)
  k_fill
  refine Sf.law_end (l := PySem.Challenge.rw_scoreforms_k12_whole_formats) (F := Sf.f_law) (xm := Sf.xmOf) (k := 7) (x := "_law_script") rfl rfl ⟨rfl, by decide, by decide⟩ (fun w h Y => PySem.W.kIn_of Y) ?F Sf.law_true
  case F =>
    intro w mg fa h KX G hmg
    refine' Sf.all_mk KX G hmg ?a1 ?l1 ?c1 ?k1 ?a2 ?l2 ?c2 ?k2 ?a3 ?l3 ?c3 ?k3 ?a4 ?l4 ?c4 ?k4 ?a5 ?l5 ?c5 ?k5 ?a6 ?l6 ?c6 ?k6 ?a7 ?l7 ?c7 ?k7 ?a8 ?l8 ?c8 ?k8 ?a9 ?l9 ?c9 ?k9 ?a10 ?l10 ?c10 ?k10 ?a11 ?l11 ?c11 ?k11 ?a12 ?l12 ?c12 ?k12 ?a13 ?l13 ?c13 ?k13 ?a14 ?l14 ?c14 ?k14 ?a15 ?l15 ?c15 ?k15 ?a16 ?l16 ?c16 ?k16 ?a17 ?l17 ?c17 ?k17 ?aX0 ?dX0 ?tX0 ?aX1 ?dX1 ?tX1 ?aX2 ?dX2 ?tX2 ?aX3 ?dX3 ?tX3 ?aX4 ?dX4 ?tX4 ?aX5 ?dX5 ?tX5 ?aX6 ?dX6 ?tX6 ?xX0 ?kX0 ?bX0 ?xX6 ?kX6 ?bX6 ?aS ?bS ?hS ?tS ?hn0 ?ht0 ?gX0 ?qX0 ?hX0 ?mX0 ?sX0 ?vX0 ?e0X0 ?e1X0 ?e2X0 ?e3X0 ?e4X0 ?e5X0 ?e6X0 ?gX6 ?qX6 ?hX6 ?mX6 ?sX6 ?vX6 ?e0X6 ?e1X6 ?e2X6 ?e3X6 ?e4X6 ?e5X6 ?e6X6 ?z_ValueError ?z_all ?z_bool ?z_int ?z_isinstance ?z_len ?z_list ?z_range ?z_str ?z_tuple ?z_TARGET ?z_LEAD ?z_CAP ?z_LEVELS ?z_DIGITS
    (case a1 => k_is)
    (case l1 => k_is)
    (case c1 => k_is)
    (case k1 => k_is)
    (case a2 => k_is)
    (case l2 => k_is)
    (case c2 => k_is)
    (case k2 => k_is)
    (case a3 => k_is)
    (case l3 => k_is)
    (case c3 => k_is)
    (case k3 => k_is)
    (case a4 => k_is)
    (case l4 => k_is)
    (case c4 => k_is)
    (case k4 => k_is)
    (case a5 => k_is)
    (case l5 => k_is)
    (case c5 => k_is)
    (case k5 => k_is)
    (case a6 => k_is)
    (case l6 => k_is)
    (case c6 => k_is)
    (case k6 => k_is)
    (case a7 => k_is)
    (case l7 => k_is)
    (case c7 => k_is)
    (case k7 => k_is)
    (case a8 => k_is)
    (case l8 => k_is)
    (case c8 => k_is)
    (case k8 => k_is)
    (case a9 => k_is)
    (case l9 => k_is)
    (case c9 => k_is)
    (case k9 => k_is)
    (case a10 => k_is)
    (case l10 => k_is)
    (case c10 => k_is)
    (case k10 => k_is)
    (case a11 => k_is)
    (case l11 => k_is)
    (case c11 => k_is)
    (case k11 => k_is)
    (case a12 => k_is)
    (case l12 => k_is)
    (case c12 => k_is)
    (case k12 => k_is)
    (case a13 => k_is)
    (case l13 => k_is)
    (case c13 => k_is)
    (case k13 => k_is)
    (case a14 => k_is)
    (case l14 => k_is)
    (case c14 => k_is)
    (case k14 => k_is)
    (case a15 => k_is)
    (case l15 => k_is)
    (case c15 => k_is)
    (case k15 => k_is)
    (case a16 => k_is)
    (case l16 => k_is)
    (case c16 => k_is)
    (case k16 => k_is)
    (case a17 => k_is)
    (case l17 => k_is)
    (case c17 => k_is)
    (case k17 => k_is)
    (case aX0 => k_is)
    (case dX0 => k_is)
    (case tX0 => k_is)
    (case aX1 => k_is)
    (case dX1 => k_is)
    (case tX1 => k_is)
    (case aX2 => k_is)
    (case dX2 => k_is)
    (case tX2 => k_is)
    (case aX3 => k_is)
    (case dX3 => k_is)
    (case tX3 => k_is)
    (case aX4 => k_is)
    (case dX4 => k_is)
    (case tX4 => k_is)
    (case aX5 => k_is)
    (case dX5 => k_is)
    (case tX5 => k_is)
    (case aX6 => k_is)
    (case dX6 => k_is)
    (case tX6 => k_is)
    (case xX0 => k_exc)
    (case kX0 => k_is)
    (case bX0 => k_is)
    (case xX6 => k_exc)
    (case kX6 => k_is)
    (case bX6 => k_is)
    (case aS => k_is)
    (case bS => k_is)
    (case hS => k_is)
    (case tS => k_is)
    (case hn0 => k_is)
    (case ht0 => k_is)
    (case gX0 => k_is)
    (case qX0 => k_is)
    (case hX0 => k_is)
    (case mX0 => k_is)
    (case sX0 => k_is)
    (case vX0 => k_is)
    (case e0X0 => k_is)
    (case e1X0 => k_is)
    (case e2X0 => k_is)
    (case e3X0 => k_is)
    (case e4X0 => k_is)
    (case e5X0 => k_is)
    (case e6X0 => k_is)
    (case gX6 => k_is)
    (case qX6 => k_is)
    (case hX6 => k_is)
    (case mX6 => k_is)
    (case sX6 => k_is)
    (case vX6 => k_is)
    (case e0X6 => k_is)
    (case e1X6 => k_is)
    (case e2X6 => k_is)
    (case e3X6 => k_is)
    (case e4X6 => k_is)
    (case e5X6 => k_is)
    (case e6X6 => k_is)
    (case z_ValueError => k_is)
    (case z_all => k_is)
    (case z_bool => k_is)
    (case z_int => k_is)
    (case z_isinstance => k_is)
    (case z_len => k_is)
    (case z_list => k_is)
    (case z_range => k_is)
    (case z_str => k_is)
    (case z_tuple => k_is)
    (case z_TARGET => k_is)
    (case z_LEAD => k_is)
    (case z_CAP => k_is)
    (case z_LEVELS => k_is)
    (case z_DIGITS => k_is)
end
