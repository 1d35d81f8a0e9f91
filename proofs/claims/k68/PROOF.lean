import PyProof.Rows.All
import Wide.All
import OpenK.AllK
import Wide.FinOn
import KE.KStateDown
import HandS.ForMost
import HandS.Exc
import HandS.WordsExc
import HandS.Defaults
import HandS.HeadHook1
import HandS.HeadHook2
import HandS.ExcInit
import HandS.Wide
import HandS.Conv
import HandS.IsInst
import HandS.TupAny
import HandS.TupMul
import HandS.Deep
import HandS.Star
import HandS.SetFor
import HandS.More
import HandS.Zip
import HandS.Iter
import HandS.Comp
import KE.KExcSuper
import HandS.ExcIs
import HandS.ExcField
import PyProof.ReprRoads
import HandS.HeadEnd
import HandS.DictComp
import HandS.Head0
import HandS.Head1
import HandS.Head2
import HandS.Words
import PySem.Challenge.RW_roadqueues_k68_errors_keep_any_value
set_option Elab.async false
set_option linter.all false
set_option maxRecDepth 100000
set_option maxHeartbeats 0
/-! S0: values with pure tuples, a store of cells numbered from 0; what stands for them in the hand layer's heap; lifted readings. -/
namespace RQ
open PySem L2

/-- a value: tuples by their parts; n: the n-th cell of the store; scr: the script; exc c d: an error of class c that keeps d -/
inductive D where
  | non | bl (b : Bool) | int (i : Int) | str (x : Str) | tup (l : List D) | ktup (l : List D) | ref (n : Nat) | exc (c : Nat) (d : D) | scr (l : List Int)
instance : Inhabited D := ⟨.non⟩

/-- a cell: a list, a dict (t: its keys are tuples), a dict that is walked, an instance with its fields -/
inductive Cell where
  | lst (l : List D) | dic (t : Bool) (l : List (D × D)) | lck (t : Bool) (l : List (D × D)) | ins (c : Nat) (fs : List (Nat × D))
instance : Inhabited Cell := ⟨.lst []⟩
abbrev Store := List Cell
abbrev Rho := List (Option D)

inductive R (α : Type) where
  | ok (a : α) (st : Store) | exn (c : Nat) (d : D) (st : Store) | bad
@[reducible] def R.bind {α β : Type} (r : R α) (f : α → Store → R β) : R β := match r with
  | .ok a st => f a st
  | .exn c d st => .exn c d st
  | .bad => .bad

/-! ### names -/
def cname : Nat → Str
  | 0 => "QueueError" | 1 => "BadWeb" | 2 => "BadRoad" | 3 => "BadPlace" | 4 => "BadNumber" | 5 => "TooMany" | 6 => "BadPuttings" | 7 => "BadRate"
  | 8 => "BadWay" | 9 => "TooFast" | 10 => "BadText" | 11 => "BadRule" | 12 => "BadRows" | 13 => "NotRing" | 14 => "HasRing" | 15 => "TooSlow"
  | 16 => "NotTowards" | 17 => "BadDues" | 18 => "UnlikeEnds" | 19 => "BadWays" | 20 => "BadTable" | 21 => "TooGreat" | 22 => "NoThing" | 23 => "WrongKind"
  | 24 => "BadName" | 25 => "Held" | 26 => "OtherWeb" | 27 => "BadDeed" | 28 => "NothingToUndo" | 29 => "NothingToRedo" | 30 => "NoNote" | 31 => "BadDesk"
  | 40 => "Web" | 41 => "Letter" | 42 => "Yard" | 43 => "Play" | 44 => "Search" | 45 => "Thing" | 46 => "Desk" | 47 => "Scene"
  | _ => ""
def fname : Nat → Str
  | 0 => "own_ends" | 1 => "own_text" | 2 => "own_out" | 3 => "own_in"
  | 4 => "own_number" | 5 => "own_beat" | 6 => "own_way" | 7 => "own_done" | 8 => "own_came"
  | 9 => "own_web" | 10 => "own_rule" | 11 => "own_ranks" | 12 => "own_order" | 13 => "own_letters" | 14 => "own_homes" | 15 => "own_lines"
  | 16 => "own_yard" | 17 => "own_puttings" | 18 => "own_at"
  | 19 => "own_ways" | 20 => "own_rate" | 21 => "own_limit" | 22 => "own_roads" | 23 => "own_first" | 24 => "own_ahead" | 25 => "own_next" | 26 => "own_most" | 27 => "own_beyond"
  | 28 => "own_kind" | 29 => "own_value"
  | 30 => "own_states" | 31 => "own_deeds" | 32 => "own_stand" | 33 => "own_notes"
  | 34 => "own_rows" | 35 => "own_waits" | 36 => "own_counts" | 37 => "own_many_at"
  | _ => ""

/-! ### what stands for a value, a cell, a store -/
section
variable (K : PySem.W.Frag)
abbrev cad (c : Nat) : Addr := He.ga K (cname c)
/-- a locked list, or one of the written part -/
def SqF (H : Hp) (a : Addr) (vs : List V) : Prop := (∃ o, H a = some (.frz o (.lst vs))) ∨
  ∃ (o : Obj) (its : Array Value) (n : Nat), K.lookup a = some o ∧ o.cls = .type "list" ∧ o.dict = none ∧ o.data = .seq its n ∧ its.size ≤ sizeLine ∧ Vals vs its.toList
/-- a tuple of the written part -/
def SqK (a : Addr) (vs : List V) : Prop := ∃ (o : Obj) (its : Array Value) (n : Nat), K.lookup a = some o ∧ o.cls = .type "tuple" ∧ o.data = .seq its n ∧ its.size ≤ sizeLine ∧ Vals vs its.toList
mutual
def Rv (π : List Addr) (H : Hp) : D → V → Prop
  | .non, v => v = .non
  | .bl b, v => v = .bl b
  | .int i, v => v = .int i
  | .str x, v => v = .str x
  | .tup l, v => ∃ a vs, v = .ref a ∧ H a = some (.tup vs) ∧ Rvs π H l vs
  | .ktup l, v => ∃ a vs, v = .ref a ∧ SqK K a vs ∧ Rvs π H l vs
  | .ref n, v => ∃ a, π[n]? = some a ∧ v = .ref a
  | .exc c d, v => ∃ a dd w, v = .ref a ∧ H a = some (exo a (cad K c) (some dd)) ∧ H dd = some (exd dd [("value", w)]) ∧ Rv π H d w
  | .scr l, v => ∃ a, v = .ref a ∧ SqF K H a (l.map V.int)
def Rvs (π : List Addr) (H : Hp) : List D → List V → Prop
  | [], vs => vs = []
  | d :: l, vs => ∃ v r, vs = v :: r ∧ Rv π H d v ∧ Rvs π H l r
end
/-- a key of a dict -/
def keyD : D → Option Key
  | .int i => some (.inl i)
  | .str x => some (.inr x)
  | _ => none
def keyT : D → Option (List Key)
  | .tup l => l.mapM keyD
  | _ => none
abbrev PK2 {κ : Type} (π : List Addr) (H : Hp) (kf : D → Option κ) (l : List (D × D)) (kv : List (κ × V)) : Prop := Paired (fun p q => kf p.1 = some q.1 ∧ Rv K π H p.2 q.2) l kv
def RelD (π : List Addr) (H : Hp) (t : Bool) (kvs : List (D × D)) (o : HO) : Prop := match t with
  | false => ∃ kv, o = .dK kv ∧ PK2 K π H keyD kvs kv
  | true => ∃ kv, o = .dT kv ∧ PK2 K π H keyT kvs kv
def RelC (π : List Addr) (H : Hp) : Cell → HO → Prop
  | .lst l, o => ∃ vs, o = .lst vs ∧ Rvs K π H l vs
  | .dic t l, o => RelD K π H t l o
  | .lck t l, o => ∃ ob u, o = .frz ob u ∧ RelD K π H t l u
  | .ins c fs, o => ∃ dx fs', o = .ins (cad K c) dx fs' ∧ Paired (fun p q => fname p.1 = q.1 ∧ Rv K π H p.2 q.2) fs fs'
structure RelSt (π : List Addr) (H : Hp) (st : Store) : Prop where
  len : st.length = π.length
  nd : π.Nodup
  cells : ∀ (n : Nat) c, st[n]? = some c → ∃ a o, π[n]? = some a ∧ H a = some o ∧ RelC K π H c o
def RelEnv (π : List Addr) (H : Hp) (ρ : Rho) (σ : St) : Prop := ρ.length = σ.length ∧ ∀ (i : Nat) d, ρ[i]? = some (some d) → ∃ v, σ[i]? = some (some v) ∧ Rv K π H d v
/-- what is not the store's stays as it is -/
structure Keep (π : List Addr) (H : Hp) (π' : List Addr) (H' : Hp) : Prop where
  pre : ∃ q, π' = π ++ q
  old : ∀ a o, H a = some o → a ∉ π → H' a = some o ∧ a ∉ π'
end

section
variable {K : PySem.W.Frag} {π π' π'' : List Addr} {H H' H'' : Hp} {st st' : Store}
theorem Keep.refl : Keep π H π H := ⟨⟨[], by simp⟩, fun _ _ h n => ⟨h, n⟩⟩
theorem Keep.trans (a : Keep π H π' H') (b : Keep π' H' π'' H'') : Keep π H π'' H'' := by
  obtain ⟨q, e⟩ := a.pre
  obtain ⟨r, f⟩ := b.pre
  refine ⟨⟨q ++ r, by rw [f, e, List.append_assoc]⟩, fun x o h n => ?_⟩
  obtain ⟨h1, n1⟩ := a.old x o h n
  exact b.old x o h1 n1
theorem Keep.get (a : Keep π H π' H') {n : Nat} {x : Addr} (h : π[n]? = some x) : π'[n]? = some x := by
  obtain ⟨q, e⟩ := a.pre
  rw [e, List.getElem?_append_left (List.getElem?_eq_some_iff.mp h).1]
  exact h
/-- an object that no cell is -/
def NoC (o : HO) : Prop := (∃ vs, o = .tup vs) ∨ (∃ ob vs, o = .frz ob (.tup vs)) ∨ (∃ ob vs, o = .frz ob (.lst vs)) ∨ (∃ φ, o = .ext φ) ∨ (∃ fs, o = .xd fs) ∨ (∃ x, o = .own x)
theorem RelSt.out (r : RelSt K π H st) {a : Addr} {o : HO} (h : H a = some o) (n : NoC o) : a ∉ π := by
  intro hm
  obtain ⟨i, hi⟩ := List.getElem?_of_mem hm
  have hl : i < st.length := by rw [r.len]; exact (List.getElem?_eq_some_iff.mp hi).1
  obtain ⟨a', o', e1, e2, e3⟩ := r.cells i st[i] (List.getElem?_eq_some_iff.mpr ⟨hl, rfl⟩)
  rw [hi] at e1; cases e1
  rw [h] at e2; cases e2
  rcases n with ⟨vs, rfl⟩ | ⟨ob, vs, rfl⟩ | ⟨ob, vs, rfl⟩ | ⟨φ, rfl⟩ | ⟨fs, rfl⟩ | ⟨x, rfl⟩
  all_goals
    cases hc : st[i] with
    | lst l => rw [hc] at e3; obtain ⟨_, e, _⟩ := e3; cases e
    | dic t l => rw [hc] at e3; cases t <;> (obtain ⟨_, e, _⟩ := e3; cases e)
    | lck t l =>
      rw [hc] at e3
      obtain ⟨_, _, e, e4⟩ := e3
      first
        | (cases e; done)
        | (cases e; cases t <;> (obtain ⟨_, e, _⟩ := e4; cases e))
    | ins c fs => rw [hc] at e3; obtain ⟨_, _, e, _⟩ := e3; cases e
theorem exo_ext {e C : Addr} {d : Option Addr} : ∃ φ, exo e C d = .ext φ := ⟨_, rfl⟩
theorem exd_ext {e : Addr} {fs : List (Str × V)} : ∃ φ, exd e fs = .ext φ := ⟨_, rfl⟩
mutual
theorem Rv.keep (r : RelSt K π H st) (k : Keep π H π' H') : ∀ (d : D) {v : V}, Rv K π H d v → Rv K π' H' d v
  | .non, _, h => h
  | .bl _, _, h => h
  | .int _, _, h => h
  | .str _, _, h => h
  | .tup l, v, h => by
    obtain ⟨a, vs, e, q, h⟩ := h
    exact ⟨a, vs, e, (k.old a _ q (r.out q (.inl ⟨_, rfl⟩))).1, Rvs.keep r k l h⟩
  | .ktup l, v, h => by
    obtain ⟨a, vs, e, q, h⟩ := h
    exact ⟨a, vs, e, q, Rvs.keep r k l h⟩
  | .ref n, v, h => by
    obtain ⟨a, e, rfl⟩ := h
    exact ⟨a, k.get e, rfl⟩
  | .exc c d, v, h => by
    obtain ⟨a, dd, w, e, h1, h2, h3⟩ := h
    exact ⟨a, dd, w, e, (k.old a _ h1 (r.out h1 (.inr (.inr (.inr (.inl ⟨_, rfl⟩)))))).1, (k.old dd _ h2 (r.out h2 (.inr (.inr (.inr (.inl ⟨_, rfl⟩)))))).1, Rv.keep r k d h3⟩
  | .scr l, v, h => by
    obtain ⟨a, e, q⟩ := h
    refine ⟨a, e, ?_⟩
    rcases q with ⟨o, q⟩ | q
    · exact .inl ⟨o, (k.old a _ q (r.out q (.inr (.inr (.inl ⟨_, _, rfl⟩))))).1⟩
    · exact .inr q
theorem Rvs.keep (r : RelSt K π H st) (k : Keep π H π' H') : ∀ (l : List D) {vs : List V}, Rvs K π H l vs → Rvs K π' H' l vs
  | [], _, h => h
  | d :: l, vs, h => by
    obtain ⟨v, q, e, h1, h2⟩ := h
    exact ⟨v, q, e, Rv.keep r k d h1, Rvs.keep r k l h2⟩
end
theorem RelEnv.keep (r : RelSt K π H st) (k : Keep π H π' H') {ρ : Rho} {σ : St} (h : RelEnv K π H ρ σ) : RelEnv K π' H' ρ σ :=
  ⟨h.1, fun i d e => let ⟨v, e1, e2⟩ := h.2 i d e; ⟨v, e1, Rv.keep r k d e2⟩⟩
end

/-! ### what a result leads to -/
section
variable (K : PySem.W.Frag) (E : XK)
def FinR {α : Type} (π : List Addr) (H : Hp) (r : R α) (k : α → List Addr → Hp → Store → Prop) : Prop := match r with
  | .ok a st => ∀ π' H', Keep π H π' H' → RelSt K π' H' st → k a π' H' st
  | .exn c d st => ∀ π' H' v dd, Keep π H π' H' → RelSt K π' H' st → Rv K π' H' d v → H' dd = some (.xd [("value", v)]) → E (.ref (cad K c)) (some dd) H'
  | .bad => False
def LE (m : Rho → Store → R D) : TE := fun σ H Q => ∃ π ρ st, RelEnv K π H ρ σ ∧ RelSt K π H st ∧ FinR K E π H (m ρ st) fun d π' H' _ => ∀ v, Rv K π' H' d v → Q v H'
def LT (m : Rho → Store → R Bool) : TT := fun σ H Q => ∃ π ρ st, RelEnv K π H ρ σ ∧ RelSt K π H st ∧ FinR K E π H (m ρ st) fun b _ H' _ => Q b H'
def LA (m : Rho → Store → R (List D)) : TA := fun σ H Q => ∃ π ρ st, RelEnv K π H ρ σ ∧ RelSt K π H st ∧ FinR K E π H (m ρ st) fun ds π' H' _ => ∀ vs, Rvs K π' H' ds vs → Q vs H'
end
section
variable {K : PySem.W.Frag} {E : XK} {α β : Type} {π π' : List Addr} {H H' : Hp} {k k' : α → List Addr → Hp → Store → Prop}
theorem FinR.shift {r : R α} (kp : Keep π H π' H') (h : FinR K E π H r k) : FinR K E π' H' r k := by
  cases r with
  | ok a st => exact fun π2 H2 k2 => h π2 H2 (kp.trans k2)
  | exn c d st => exact fun π2 H2 v dd k2 => h π2 H2 v dd (kp.trans k2)
  | bad => exact h
theorem FinR.mono {r : R α} (h : FinR K E π H r k) (hk : ∀ a π' H' st', Keep π H π' H' → RelSt K π' H' st' → k a π' H' st' → k' a π' H' st') : FinR K E π H r k' := by
  cases r with
  | ok a st => exact fun π2 H2 k2 r2 => hk a π2 H2 st k2 r2 (h π2 H2 k2 r2)
  | exn c d st => exact h
  | bad => exact h
theorem FinR.bindE {r : R α} {f : α → Store → R β} {kb : β → List Addr → Hp → Store → Prop} (h : FinR K E π H (r.bind f) kb) :
    FinR K E π H r fun a π1 H1 st1 => FinR K E π1 H1 (f a st1) kb := by
  cases r with
  | ok a st => exact fun π2 H2 k2 r2 => FinR.shift k2 h
  | exn c d st => exact h
  | bad => exact h
theorem FinR.ok {a : α} {st : Store} (r : RelSt K π H st) (h : FinR K E π H (.ok a st) k) : k a π H st := h π H Keep.refl r
theorem PE.imp {X : Cx} {e : Expr} {t t' : TE} (h : PE X e t) (hi : ∀ σ H Q, t' σ H Q → t σ H Q) : PE X e t' := ⟨fun pins s σ H Q I q => h.run pins s σ H Q I (hi _ _ _ q)⟩
theorem PT.imp {X : Cx} {e : Expr} {t t' : TT} (h : PT X e t) (hi : ∀ σ H Q, t' σ H Q → t σ H Q) : PT X e t' := ⟨fun pins s σ H Q I q => h.run pins s σ H Q I (hi _ _ _ q)⟩
theorem PA.imp {X : Cx} {e : List Expr} {t t' : TA} (h : PA X e t) (hi : ∀ σ H Q, t' σ H Q → t σ H Q) : PA X e t' := ⟨fun pos pins s σ H Q I q => h.run pos pins s σ H Q I (hi _ _ _ q)⟩
theorem PS.imp {X : Cx} {e : Stmt} {t t' : TS} (h : PS X e t) (hi : ∀ D σ H, t' D σ H → t D σ H) : PS X e t' := ⟨fun pins s σ H D I q => h.run pins s σ H D I (hi _ _ _ q)⟩
theorem PSs.imp {X : Cx} {e : List Stmt} {t t' : TS} (h : PSs X e t) (hi : ∀ D σ H, t' D σ H → t D σ H) : PSs X e t' := ⟨fun pins s σ H D I q => h.run pins s σ H D I (hi _ _ _ q)⟩
theorem PG.imp {X : Cx} {e : Expr} {t t' : TG} (h : PG X e t) (hi : ∀ v σ H Q, t' v σ H Q → t v σ H Q) : PG X e t' := ⟨fun pins s σ H v u Q I r q => h.run pins s σ H v u Q I r (hi _ _ _ _ q)⟩
end

/-- a tuple's parts -/
def tupD : D → Option (List D)
  | .tup l => some l
  | .ktup l => some l
  | _ => none
theorem tupD_ok {K : PySem.W.Frag} {π : List Addr} {H : Hp} {d : D} {v : V} {l : List D} (h : Rv K π H d v) (e : tupD d = some l) : ∃ a vs, v = .ref a ∧ SqT K H a vs ∧ Rvs K π H l vs := by
  cases d with
  | tup m =>
    cases e
    obtain ⟨a, vs, e, q, h⟩ := h
    exact ⟨a, vs, e, SqT.of q, h⟩
  | ktup m =>
    cases e
    obtain ⟨a, vs, e, q, h⟩ := h
    exact ⟨a, vs, e, .inr q, h⟩
  | _ => cases e
/-! ### lists of values -/
section
variable {K : PySem.W.Frag} {π : List Addr} {H : Hp}
theorem Rvs.length : ∀ {ds : List D} {vs : List V}, Rvs K π H ds vs → ds.length = vs.length
  | [], vs, h => by rw [show vs = [] from h]; rfl
  | d :: l, vs, h => by
    obtain ⟨v, r, rfl, _, h2⟩ := h
    simp [Rvs.length h2]
theorem Rvs.get : ∀ {ds : List D} {vs : List V} {i : Nat} {d : D}, Rvs K π H ds vs → ds[i]? = some d → ∃ v, vs[i]? = some v ∧ Rv K π H d v
  | [], _, i, d, _, e => by simp at e
  | x :: l, vs, 0, d, h, e => by
    obtain ⟨v, r, rfl, h1, _⟩ := h
    simp at e; subst e
    exact ⟨v, rfl, h1⟩
  | x :: l, vs, i + 1, d, h, e => by
    obtain ⟨v, r, rfl, _, h2⟩ := h
    obtain ⟨w, e1, e2⟩ := Rvs.get (i := i) h2 (by simpa using e)
    exact ⟨w, by simpa using e1, e2⟩
theorem Rvs.append : ∀ {ds es : List D} {vs ws : List V}, Rvs K π H ds vs → Rvs K π H es ws → Rvs K π H (ds ++ es) (vs ++ ws)
  | [], es, vs, ws, h, h' => by rw [show vs = [] from h]; exact h'
  | d :: l, es, vs, ws, h, h' => by
    obtain ⟨v, r, rfl, h1, h2⟩ := h
    exact ⟨v, r ++ ws, rfl, h1, Rvs.append h2 h'⟩
theorem Rvs.one {d : D} {v : V} (h : Rv K π H d v) : Rvs K π H [d] [v] := ⟨v, [], rfl, h, rfl⟩
theorem Rvs.inv1 {d : D} {vs : List V} (h : Rvs K π H [d] vs) : ∃ v, vs = [v] ∧ Rv K π H d v := by
  obtain ⟨v, r, rfl, h1, rfl⟩ := h
  exact ⟨v, rfl, h1⟩
theorem Rvs.inv2 {d e : D} {vs : List V} (h : Rvs K π H [d, e] vs) : ∃ v w, vs = [v, w] ∧ Rv K π H d v ∧ Rv K π H e w := by
  obtain ⟨v, r, rfl, h1, h2⟩ := h
  obtain ⟨w, rfl, h3⟩ := h2.inv1
  exact ⟨v, w, rfl, h1, h3⟩
theorem Rvs.set : ∀ {ds : List D} {vs : List V} {d : D} {v : V} (i : Nat), Rvs K π H ds vs → Rv K π H d v → Rvs K π H (ds.set i d) (vs.set i v)
  | [], vs, _, _, _, h, _ => by rw [show vs = [] from h]; exact rfl
  | x :: l, vs, d, v, 0, h, hv => by
    obtain ⟨w, r, rfl, _, h2⟩ := h
    exact ⟨v, r, rfl, hv, h2⟩
  | x :: l, vs, d, v, i + 1, h, hv => by
    obtain ⟨w, r, rfl, h1, h2⟩ := h
    exact ⟨w, r.set i v, rfl, h1, Rvs.set i h2 hv⟩
theorem Rvs.take : ∀ {ds : List D} {vs : List V} (n : Nat), Rvs K π H ds vs → Rvs K π H (ds.take n) (vs.take n)
  | _, _, 0, _ => rfl
  | [], vs, n + 1, h => by rw [show vs = [] from h]; exact rfl
  | d :: l, vs, n + 1, h => by
    obtain ⟨v, r, rfl, h1, h2⟩ := h
    exact ⟨v, r.take n, rfl, h1, Rvs.take n h2⟩
theorem Rvs.drop : ∀ {ds : List D} {vs : List V} (n : Nat), Rvs K π H ds vs → Rvs K π H (ds.drop n) (vs.drop n)
  | _, _, 0, h => h
  | [], vs, n + 1, h => by rw [show vs = [] from h]; exact rfl
  | d :: l, vs, n + 1, h => by
    obtain ⟨v, r, rfl, _, h2⟩ := h
    exact Rvs.drop n h2
theorem Rvs.reverse : ∀ {ds : List D} {vs : List V}, Rvs K π H ds vs → Rvs K π H ds.reverse vs.reverse
  | [], vs, h => by rw [show vs = [] from h]; exact rfl
  | d :: l, vs, h => by
    obtain ⟨v, r, rfl, h1, h2⟩ := h
    rw [List.reverse_cons, List.reverse_cons]
    exact (Rvs.reverse h2).append (Rvs.one h1)
theorem Rvs.none {ds : List D} {vs : List V} {i : Nat} (h : Rvs K π H ds vs) (e : ds[i]? = none) : vs[i]? = none := by
  rw [List.getElem?_eq_none_iff] at e ⊢
  rw [← h.length]; exact e
theorem Rvs.ints : ∀ {ns : List Int}, Rvs K π H (ns.map D.int) (ns.map V.int)
  | [] => rfl
  | n :: r => ⟨_, _, rfl, rfl, Rvs.ints⟩
theorem Rvs.ints_inv : ∀ {ns : List Int} {vs : List V}, Rvs K π H (ns.map D.int) vs → vs = ns.map V.int
  | [], vs, h => h
  | n :: r, vs, h => by
    obtain ⟨v, q, rfl, h1, h2⟩ := h
    rw [show v = .int n from h1, Rvs.ints_inv h2]; rfl
end
end RQ

/-! S1: expressions, statements, loops, defs. -/
namespace RQ
open PySem L2

abbrev QE (X : Cx) (E : XK) (e : Expr) (m : Rho → Store → R D) : Prop := PE X e (LE X.K E m)
abbrev QT (X : Cx) (E : XK) (e : Expr) (m : Rho → Store → R Bool) : Prop := PT X e (LT X.K E m)
abbrev QA (X : Cx) (E : XK) (es : List Expr) (m : Rho → Store → R (List D)) : Prop := PA X es (LA X.K E m)

/-! ### names, constants -/
def mVar (i : Nat) : Rho → Store → R D := fun ρ st => match ρ[i]? with
  | some (some d) => .ok d st
  | _ => .bad
def mC (d : D) : Rho → Store → R D := fun _ st => .ok d st
section
variable {X : Cx} {E : XK}
theorem le_var {K : PySem.W.Frag} {i : Nat} {σ : St} {H : Hp} {Q : VK} (h : LE K E (mVar i) σ H Q) : tVar i σ H Q := by
  obtain ⟨π, ρ, st, he, hr, h⟩ := h
  unfold mVar at h
  split at h
  · rename_i d e
    obtain ⟨v, e1, e2⟩ := he.2 i d e
    exact ⟨v, e1, FinR.ok hr h v e2⟩
  · exact h.elim
theorem qe_var {i : Nat} {x : Str} {pos : Pos} (h : PE X (.Name x pos) (tVar i)) : QE X E (.Name x pos) (mVar i) := PE.imp h fun _ _ _ h => le_var h
theorem le_c {K : PySem.W.Frag} {d : D} {v : V} {σ : St} {H : Hp} {Q : VK} (hv : ∀ π H, Rv K π H d v) (h : LE K E (mC d) σ H Q) : tC v σ H Q := by
  obtain ⟨π, ρ, st, he, hr, h⟩ := h
  exact FinR.ok hr h v (hv _ _)
theorem qe_int {i : Int} {j pos} : QE X E (.Constant (.int i) j pos) (mC (.int i)) := PE.imp pe_int fun _ _ _ h => le_c (d := .int i) (fun _ _ => rfl) h
theorem qe_str {x : Str} {j pos} : QE X E (.Constant (.str x) j pos) (mC (.str x)) := PE.imp pe_str fun _ _ _ h => le_c (d := .str x) (fun _ _ => rfl) h
theorem qe_bl {b : Bool} {j pos} : QE X E (.Constant (.bool b) j pos) (mC (.bl b)) := PE.imp pe_bl fun _ _ _ h => le_c (d := .bl b) (fun _ _ => rfl) h
theorem qe_non {j pos} : QE X E (.Constant .none j pos) (mC .non) := PE.imp pe_non fun _ _ _ h => le_c (d := .non) (fun _ _ => rfl) h
/-- a constant of the module -/
def GlobV (X : Cx) (x : Str) (d : D) : Prop := ∃ u v, X.mg x = some u ∧ RelV v u ∧ ∀ π H, Rv X.K π H d v
theorem qe_glob {x : Str} {d : D} {pos : Pos} (g : GlobV X x d) (hg : Gl X x := by rfl) (hd : (x == ("__debug__" : Str)) = false := by decide) : QE X E (.Name x pos) (mC d) := by
  obtain ⟨u, v, h1, h2, h3⟩ := g
  exact PE.imp (pe_glob hg h1 h2 hd) fun _ _ _ h => le_c h3 h
end

/-! ### what a built-in gives: nothing is raised -/
abbrev B := Option (D × Store)
@[reducible] def ofB (b : B) : R D := match b with
  | some (d, st) => .ok d st
  | none => .bad
def FinB (K : PySem.W.Frag) (π : List Addr) (H : Hp) (r : B) (Q : VK) : Prop := match r with
  | some (d, st) => ∀ π' H', Keep π H π' H' → RelSt K π' H' st → ∀ v, Rv K π' H' d v → Q v H'
  | none => False
theorem finB_of {K : PySem.W.Frag} {E : XK} {π : List Addr} {H : Hp} {r : B} {Q : VK} (h : FinR K E π H (ofB r) fun d π' H' _ => ∀ v, Rv K π' H' d v → Q v H') : FinB K π H r Q := by
  cases r with
  | none => exact h
  | some p => obtain ⟨d, st⟩ := p; exact h
def rOf (K : PySem.W.Frag) (f : D → D → Store → B) : R2 := fun x y H Q => ∃ π st a b, RelSt K π H st ∧ Rv K π H a x ∧ Rv K π H b y ∧ FinB K π H (f a b st) Q
def rOf1 (K : PySem.W.Frag) (f : D → Store → B) : V → Hp → VK → Prop := fun x H Q => ∃ π st a, RelSt K π H st ∧ Rv K π H a x ∧ FinB K π H (f a st) Q
def rOfL (K : PySem.W.Frag) (f : List D → Store → B) : List V → Hp → VK → Prop := fun xs H Q => ∃ π st as, RelSt K π H st ∧ Rvs K π H as xs ∧ FinB K π H (f as st) Q
abbrev OpS (X : Cx) (op : Value → Value → Sem Value) (f : D → D → Store → B) : Prop := OpR X op (rOf X.K f)

def mBin (f : D → D → Store → B) (ma mb : Rho → Store → R D) : Rho → Store → R D := fun ρ st =>
  (ma ρ st).bind fun a s1 => (mb ρ s1).bind fun b s2 => ofB (f a b s2)
def mUn (f : D → Store → B) (ma : Rho → Store → R D) : Rho → Store → R D := fun ρ st => (ma ρ st).bind fun a s1 => ofB (f a s1)
section
variable {X : Cx} {E : XK} {K : PySem.W.Frag} {a b c : Expr} {ma mb mc : Rho → Store → R D} {pos : Pos}
theorem le_bind {m : Rho → Store → R D} {f : Rho → D → Store → R D} {σ : St} {H : Hp} {Q Q' : VK} (h : LE K E (fun ρ st => (m ρ st).bind (f ρ)) σ H Q)
    (k : ∀ π ρ st d v H1, RelEnv K π H1 ρ σ → RelSt K π H1 st → Rv K π H1 d v → FinR K E π H1 (f ρ d st) (fun d π' H' _ => ∀ v, Rv K π' H' d v → Q v H') → Q' v H1) : LE K E m σ H Q' := by
  obtain ⟨π, ρ, st, he, hr, h⟩ := h
  exact ⟨π, ρ, st, he, hr, FinR.mono h.bindE fun d π1 H1 st1 kp r1 hf v hv => k π1 ρ st1 d v H1 (RelEnv.keep hr kp he) r1 hv hf⟩
theorem le_bin {f : D → D → Store → B} {σ : St} {H : Hp} {Q : VK} (h : LE K E (mBin f ma mb) σ H Q) : tOp (rOf K f) (LE K E ma) (LE K E mb) σ H Q := by
  obtain ⟨π, ρ, st, he, hr, h⟩ := h
  refine ⟨π, ρ, st, he, hr, FinR.mono h.bindE fun d π1 H1 st1 kp r1 hf v hv => ?_⟩
  refine ⟨π1, ρ, st1, RelEnv.keep hr kp he, r1, FinR.mono hf.bindE fun d2 π2 H2 st2 kp2 r2 hf2 w hw => ?_⟩
  exact ⟨π2, st2, d, d2, r2, Rv.keep r1 kp2 d hv, hw, finB_of hf2⟩
theorem qe_bin {op : Operator} {f : D → D → Store → B} (ho : OpS X (binaryOp op) f) (ha : QE X E a ma) (hb : QE X E b mb) : QE X E (.BinOp a op b pos) (mBin f ma mb) := PE.imp (pe_op ho ha hb) fun _ _ _ h => le_bin h
theorem qe_cmp {op : CmpOp} {f : D → D → Store → B} (ho : OpS X (compareOp op) f) (ha : QE X E a ma) (hb : QE X E b mb) (hm : behindInMarks op b = false) : QE X E (.Compare a [op] [b] pos) (mBin f ma mb) := PE.imp (pe_cmpR ho ha hb hm) fun _ _ _ h => le_bin h
theorem le_un {f : D → Store → B} {σ : St} {H : Hp} {Q : VK} (h : LE K E (mUn f ma) σ H Q) : tUn (rOf1 K f) (LE K E ma) σ H Q := by
  obtain ⟨π, ρ, st, he, hr, h⟩ := h
  refine ⟨π, ρ, st, he, hr, FinR.mono h.bindE fun d π1 H1 st1 kp r1 hf v hv => ?_⟩
  exact ⟨π1, st1, d, r1, hv, finB_of hf⟩
theorem qe_un {op : UnaryOp} {f : D → Store → B} (ho : UnR X (unaryOp op) (rOf1 X.K f)) (ha : QE X E a ma) : QE X E (.UnaryOp op a pos) (mUn f ma) := PE.imp (pe_un ho ha) fun _ _ _ h => le_un h

/-! ### tests -/
@[reducible] def toBl (d : D) (st : Store) : R Bool := match d with
  | .bl b => .ok b st
  | _ => .bad
def mT (m : Rho → Store → R D) : Rho → Store → R Bool := fun ρ st => (m ρ st).bind toBl
theorem lt_val {m : Rho → Store → R D} {σ : St} {H : Hp} {Q : Bool → Hp → Prop} (h : LT K E (mT m) σ H Q) : tB (LE K E m) σ H Q := by
  obtain ⟨π, ρ, st, he, hr, h⟩ := h
  refine ⟨π, ρ, st, he, hr, FinR.mono h.bindE fun d π1 H1 st1 kp r1 hf v hv => ?_⟩
  cases d with
  | bl b => exact ⟨b, hv, FinR.ok r1 hf⟩
  | _ => exact hf.elim
/-- an expression that gives a bool, as a test -/
theorem qt_val {m : Rho → Store → R D} (h : QE X E a m) (he : ∀ whole, isTrue a X.env whole = (do let v ← whole; standAt a.pos; holding [v] (truthy v)) := by intro _; rfl) : QT X E a (mT m) := PT.imp (pt_val h he) fun _ _ _ h => lt_val h
theorem qt_cmp {op : CmpOp} {f : D → D → Store → B} (ho : OpS X (compareOp op) f) (ha : QE X E a ma) (hb : QE X E b mb) (hm : behindInMarks op b = false) : QT X E (.Compare a [op] [b] pos) (mT (mBin f ma mb)) :=
  PT.imp (pt_cmpR ho ha hb hm) fun σ H Q h => by
    obtain ⟨π, ρ, st, he, hr, h⟩ := h
    refine le_bin (E := E) ⟨π, ρ, st, he, hr, FinR.mono h.bindE fun d π1 H1 st1 kp r1 hf v hv => ?_⟩
    cases d with
    | bl b => exact ⟨b, hv, FinR.ok r1 hf⟩
    | _ => exact hf.elim
def mNot (m : Rho → Store → R Bool) : Rho → Store → R Bool := fun ρ st => (m ρ st).bind fun b s => .ok (!b) s
def mAnd (m n : Rho → Store → R Bool) : Rho → Store → R Bool := fun ρ st => (m ρ st).bind fun b s => if b = true then n ρ s else .ok false s
def mOr (m n : Rho → Store → R Bool) : Rho → Store → R Bool := fun ρ st => (m ρ st).bind fun b s => if b = true then .ok true s else n ρ s
variable {tA tB' : Rho → Store → R Bool} {rest : List Expr}
abbrev QW (X : Cx) (E : XK) (e : Expr) (m : Rho → Store → R Bool) : Prop := PW X e (LT X.K E m)
theorem PW.imp {e : Expr} {t t' : TT} (h : PW X e t) (hi : ∀ σ H Q, t' σ H Q → t σ H Q) : PW X e t' := ⟨fun w pins s σ H Q I q => h.run w pins s σ H Q I (hi _ _ _ q)⟩
theorem qt_not (h : QT X E a tA) : QT X E (.UnaryOp .Not a pos) (mNot tA) := PT.imp (pt_not h) fun σ H Q h => by
  obtain ⟨π, ρ, st, he, hr, h⟩ := h
  exact ⟨π, ρ, st, he, hr, FinR.mono h.bindE fun b π1 H1 st1 kp r1 hf => FinR.ok r1 hf⟩
theorem qw_and1 (h : QT X E a tA) : QW X E (.BoolOp .And [a] pos) tA := pw_and1 h
theorem qw_or1 (h : QT X E a tA) : QW X E (.BoolOp .Or [a] pos) tA := pw_or1 h
theorem qw_and (ha : QT X E a tA) (hb : QW X E (.BoolOp .And (b :: rest) pos) tB') : QW X E (.BoolOp .And (a :: b :: rest) pos) (mAnd tA tB') := PW.imp (pw_and ha hb) fun σ H Q h => by
  obtain ⟨π, ρ, st, he, hr, h⟩ := h
  refine ⟨π, ρ, st, he, hr, FinR.mono h.bindE fun b π1 H1 st1 kp r1 hf => ?_⟩
  cases b with
  | true => exact ⟨π1, ρ, st1, RelEnv.keep hr kp he, r1, hf⟩
  | false => exact FinR.ok r1 hf
theorem qw_or (ha : QT X E a tA) (hb : QW X E (.BoolOp .Or (b :: rest) pos) tB') : QW X E (.BoolOp .Or (a :: b :: rest) pos) (mOr tA tB') := PW.imp (pw_or ha hb) fun σ H Q h => by
  obtain ⟨π, ρ, st, he, hr, h⟩ := h
  refine ⟨π, ρ, st, he, hr, FinR.mono h.bindE fun b π1 H1 st1 kp r1 hf => ?_⟩
  cases b with
  | true => exact FinR.ok r1 hf
  | false => exact ⟨π1, ρ, st1, RelEnv.keep hr kp he, r1, hf⟩
theorem QW.qt {e : Expr} {m : Rho → Store → R Bool} (h : QW X E e m) : QT X E e m := PW.pt h
/-- and, or, not as values (bools) -/
def mAndV (m n : Rho → Store → R D) : Rho → Store → R D := fun ρ st => (m ρ st).bind fun d s => match d with
  | .bl b => if b = true then n ρ s else .ok (.bl false) s
  | _ => .bad
def mOrV (m n : Rho → Store → R D) : Rho → Store → R D := fun ρ st => (m ρ st).bind fun d s => match d with
  | .bl b => if b = true then .ok (.bl true) s else n ρ s
  | _ => .bad
def mNotV (m : Rho → Store → R D) : Rho → Store → R D := fun ρ st => (m ρ st).bind fun d s => match d with
  | .bl b => .ok (.bl (!b)) s
  | _ => .bad
theorem qe_one {op} {m : Rho → Store → R D} (h : QE X E a m) : QE X E (.BoolOp op [a] pos) m := pe_one h
theorem qe_and (ha : QE X E a ma) (hb : QE X E (.BoolOp .And (b :: rest) pos) mb) : QE X E (.BoolOp .And (a :: b :: rest) pos) (mAndV ma mb) := PE.imp (pe_and ha hb) fun σ H Q h => by
  obtain ⟨π, ρ, st, he, hr, h⟩ := h
  refine ⟨π, ρ, st, he, hr, FinR.mono h.bindE fun d π1 H1 st1 kp r1 hf v hv => ?_⟩
  cases d with
  | bl b =>
    refine ⟨b, hv, ?_⟩
    cases b with
    | true => exact ⟨π1, ρ, st1, RelEnv.keep hr kp he, r1, hf⟩
    | false => exact FinR.ok r1 hf _ rfl
  | _ => exact hf.elim
theorem qe_or (ha : QE X E a ma) (hb : QE X E (.BoolOp .Or (b :: rest) pos) mb) : QE X E (.BoolOp .Or (a :: b :: rest) pos) (mOrV ma mb) := PE.imp (pe_or ha hb) fun σ H Q h => by
  obtain ⟨π, ρ, st, he, hr, h⟩ := h
  refine ⟨π, ρ, st, he, hr, FinR.mono h.bindE fun d π1 H1 st1 kp r1 hf v hv => ?_⟩
  cases d with
  | bl b =>
    refine ⟨b, hv, ?_⟩
    cases b with
    | true => exact FinR.ok r1 hf _ rfl
    | false => exact ⟨π1, ρ, st1, RelEnv.keep hr kp he, r1, hf⟩
  | _ => exact hf.elim
theorem qe_not (ha : QE X E a ma) : QE X E (.UnaryOp .Not a pos) (mNotV ma) := PE.imp (pe_not ha) fun σ H Q h => by
  obtain ⟨π, ρ, st, he, hr, h⟩ := h
  refine ⟨π, ρ, st, he, hr, FinR.mono h.bindE fun d π1 H1 st1 kp r1 hf v hv => ?_⟩
  cases d with
  | bl b => exact ⟨b, hv, FinR.ok r1 hf _ rfl⟩
  | _ => exact hf.elim
/-- a if c else b -/
def mIfE (t : Rho → Store → R Bool) (m n : Rho → Store → R D) : Rho → Store → R D := fun ρ st => (t ρ st).bind fun b s => if b = true then m ρ s else n ρ s
theorem qe_if (hc : QT X E c tA) (ha : QE X E a ma) (hb : QE X E b mb) : QE X E (.IfExp c a b pos) (mIfE tA ma mb) := PE.imp (pe_ifExp hc ha hb) fun σ H Q h => by
  obtain ⟨π, ρ, st, he, hr, h⟩ := h
  refine ⟨π, ρ, st, he, hr, FinR.mono h.bindE fun b π1 H1 st1 kp r1 hf => ?_⟩
  cases b with
  | true => exact ⟨π1, ρ, st1, RelEnv.keep hr kp he, r1, hf⟩
  | false => exact ⟨π1, ρ, st1, RelEnv.keep hr kp he, r1, hf⟩
/-- a < b < c -/
def mChain (f g : D → D → Store → B) (ma mb mc : Rho → Store → R D) : Rho → Store → R D := fun ρ st =>
  (ma ρ st).bind fun a s1 => (mb ρ s1).bind fun b s2 => (ofB (f a b s2)).bind fun k s3 => match k with
    | .bl t => if t = true then (mc ρ s3).bind fun c s4 => ofB (g b c s4) else .ok (.bl false) s3
    | _ => .bad
theorem le_chain {f g : D → D → Store → B} {σ : St} {H : Hp} {Q : VK} (h : LE K E (mChain f g ma mb mc) σ H Q) : tChain (rOf K f) (rOf K g) (LE K E ma) (LE K E mb) (LE K E mc) σ H Q := by
  obtain ⟨π, ρ, st, he, hr, h⟩ := h
  refine ⟨π, ρ, st, he, hr, FinR.mono h.bindE fun d π1 H1 st1 kp r1 hf v hv => ?_⟩
  refine ⟨π1, ρ, st1, RelEnv.keep hr kp he, r1, FinR.mono hf.bindE fun d2 π2 H2 st2 kp2 r2 hf2 w hw => ?_⟩
  refine ⟨π2, st2, d, d2, r2, Rv.keep r1 kp2 d hv, hw, finB_of (FinR.mono hf2.bindE fun d3 π3 H3 st3 kp3 r3 hf3 z hz => ?_)⟩
  cases d3 with
  | bl t =>
    refine ⟨t, hz, ?_⟩
    cases t with
    | true =>
      refine ⟨π3, ρ, st3, RelEnv.keep r2 kp3 (RelEnv.keep r1 kp2 (RelEnv.keep hr kp he)), r3, FinR.mono hf3.bindE fun d4 π4 H4 st4 kp4 r4 hf4 u hu => ?_⟩
      exact ⟨π4, st4, d2, d4, r4, Rv.keep r3 kp4 d2 (Rv.keep r2 kp3 d2 hw), hu, finB_of hf4⟩
    | false => exact FinR.ok r3 hf3 _ rfl
  | _ => exact hf3.elim
theorem qe_chain {op op' : CmpOp} {f g : D → D → Store → B} {whole : Pos} (h : PE X (.Compare a [op, op'] [b, c] pos) (tChain (rOf X.K f) (rOf X.K g) (LE X.K E ma) (LE X.K E mb) (LE X.K E mc))) : QE X E (.Compare a [op, op'] [b, c] pos) (mChain f g ma mb mc) := PE.imp h fun _ _ _ h => le_chain h
end

/-! ### arguments -/
def mNil : Rho → Store → R (List D) := fun _ st => .ok [] st
def mCons (m : Rho → Store → R D) (ms : Rho → Store → R (List D)) : Rho → Store → R (List D) := fun ρ st => (m ρ st).bind fun d s1 => (ms ρ s1).bind fun ds s2 => .ok (d :: ds) s2
section
variable {X : Cx} {E : XK} {e : Expr} {es : List Expr} {m : Rho → Store → R D} {ms : Rho → Store → R (List D)}
theorem qa_nil : QA X E [] mNil := PA.imp pa_nil fun σ H Q h => by
  obtain ⟨π, ρ, st, he, hr, h⟩ := h
  exact FinR.ok hr h [] rfl
theorem qa_cons (ha : QE X E e m) (hr : QA X E es ms) (hs : starEach (e :: es) X.env = (false, eval e X.env) :: starEach es X.env := by rfl) : QA X E (e :: es) (mCons m ms) := PA.imp (pa_cons ha hr hs) fun σ H Q h => by
  obtain ⟨π, ρ, st, he, hr, h⟩ := h
  refine ⟨π, ρ, st, he, hr, FinR.mono h.bindE fun d π1 H1 st1 kp r1 hf v hv => ?_⟩
  refine ⟨π1, ρ, st1, RelEnv.keep hr kp he, r1, FinR.mono hf.bindE fun ds π2 H2 st2 kp2 r2 hf2 ws hw => ?_⟩
  exact FinR.ok r2 hf2 (v :: ws) ⟨v, ws, rfl, Rv.keep r1 kp2 d hv, hw⟩
end

/-! ### statements -/
inductive RS where
  | nx (ρ : Rho) (st : Store) | rt (d : D) (st : Store) | bk (ρ : Rho) (st : Store) | ct (ρ : Rho) (st : Store) | exn (c : Nat) (d : D) (st : Store) | bad
abbrev MS := Rho → Store → RS
@[reducible] def R.toS {α : Type} (r : R α) (f : α → Store → RS) : RS := match r with
  | .ok a st => f a st
  | .exn c d st => .exn c d st
  | .bad => .bad
def FinS (K : PySem.W.Frag) (E : XK) (π : List Addr) (H : Hp) (r : RS) (Z : Ends) : Prop := match r with
  | .nx ρ st => ∀ π' H' σ', Keep π H π' H' → RelSt K π' H' st → RelEnv K π' H' ρ σ' → Z.nx σ' H'
  | .bk ρ st => ∀ π' H' σ', Keep π H π' H' → RelSt K π' H' st → RelEnv K π' H' ρ σ' → Z.bk σ' H'
  | .ct ρ st => ∀ π' H' σ', Keep π H π' H' → RelSt K π' H' st → RelEnv K π' H' ρ σ' → Z.ct σ' H'
  | .rt d st => ∀ π' H' v, Keep π H π' H' → RelSt K π' H' st → Rv K π' H' d v → Z.rt v H'
  | .exn c d st => ∀ π' H' v dd, Keep π H π' H' → RelSt K π' H' st → Rv K π' H' d v → H' dd = some (.xd [("value", v)]) → E (.ref (cad K c)) (some dd) H'
  | .bad => False
def LS (K : PySem.W.Frag) (E : XK) (m : MS) : TS := fun Z σ H => ∃ π ρ st, RelEnv K π H ρ σ ∧ RelSt K π H st ∧ FinS K E π H (m ρ st) Z
abbrev QS (X : Cx) (E : XK) (s : Stmt) (m : MS) : Prop := PS X s (LS X.K E m)
abbrev QSs (X : Cx) (E : XK) (s : List Stmt) (m : MS) : Prop := PSs X s (LS X.K E m)
section
variable {K : PySem.W.Frag} {E : XK} {α : Type} {π π' : List Addr} {H H' : Hp} {Z : Ends}
theorem FinS.shift {r : RS} (kp : Keep π H π' H') (h : FinS K E π H r Z) : FinS K E π' H' r Z := by
  cases r with
  | nx ρ st => exact fun π2 H2 σ2 k2 => h π2 H2 σ2 (kp.trans k2)
  | bk ρ st => exact fun π2 H2 σ2 k2 => h π2 H2 σ2 (kp.trans k2)
  | ct ρ st => exact fun π2 H2 σ2 k2 => h π2 H2 σ2 (kp.trans k2)
  | rt d st => exact fun π2 H2 v k2 => h π2 H2 v (kp.trans k2)
  | exn c d st => exact fun π2 H2 v dd k2 => h π2 H2 v dd (kp.trans k2)
  | bad => exact h
theorem FinS.ofR {r : R α} {f : α → Store → RS} (h : FinS K E π H (r.toS f) Z) : FinR K E π H r fun a π1 H1 st1 => FinS K E π1 H1 (f a st1) Z := by
  cases r with
  | ok a st => exact fun π2 H2 k2 r2 => FinS.shift k2 h
  | exn c d st => exact h
  | bad => exact h
theorem FinS.nx {ρ : Rho} {σ : St} {st : Store} (r : RelSt K π H st) (he : RelEnv K π H ρ σ) (h : FinS K E π H (.nx ρ st) Z) : Z.nx σ H := h π H σ Keep.refl r he
end
def mNext : MS := fun ρ st => .nx ρ st
def mSeq (m n : MS) : MS := fun ρ st => match m ρ st with
  | .nx ρ' st' => n ρ' st'
  | r => r
def mBk : MS := fun ρ st => .bk ρ st
def mCt : MS := fun ρ st => .ct ρ st
def mRet (m : Rho → Store → R D) : MS := fun ρ st => (m ρ st).toS fun d s => .rt d s
def mRetN : MS := fun _ st => .rt .non st
def mDrop (m : Rho → Store → R D) : MS := fun ρ st => (m ρ st).toS fun _ s => .nx ρ s
def mIf (t : Rho → Store → R Bool) (m n : MS) : MS := fun ρ st => (t ρ st).toS fun b s => if b = true then m ρ s else n ρ s
/-- behind a turn -/
@[reducible] def RS.turn (r : RS) (f : Rho → Store → RS) : RS := match r with
  | .nx ρ s => f ρ s
  | .ct ρ s => f ρ s
  | .bk ρ s => .nx ρ s
  | r => r
theorem FinS.turn {K : PySem.W.Frag} {E : XK} {π : List Addr} {H : Hp} {Z : Ends} {N : St → Hp → Prop} {r : RS} {f : Rho → Store → RS} (h : FinS K E π H (r.turn f) Z)
    (hN : ∀ π' H' σ' ρ' st', Keep π H π' H' → RelSt K π' H' st' → RelEnv K π' H' ρ' σ' → FinS K E π' H' (f ρ' st') Z → N σ' H') : FinS K E π H r { Z with nx := N, ct := N, bk := Z.nx } := by
  cases r with
  | nx ρ s => exact fun π' H' σ' k r e => hN π' H' σ' ρ s k r e (FinS.shift k h)
  | ct ρ s => exact fun π' H' σ' k r e => hN π' H' σ' ρ s k r e (FinS.shift k h)
  | bk ρ s => exact h
  | rt d s => exact h
  | exn c d s => exact h
  | bad => exact h
/-- turns: at most so many -/
def mWhile (t : Rho → Store → R Bool) (m : MS) : Nat → MS
  | 0, _, _ => .bad
  | k + 1, ρ, st => (t ρ st).toS fun b s => if b = true then (m ρ s).turn (mWhile t m k) else .nx ρ s
section
variable {X : Cx} {E : XK} {st : Stmt} {rest : List Stmt} {m n : MS} {e c : Expr} {me : Rho → Store → R D} {mt : Rho → Store → R Bool} {pos : Pos} {a b : List Stmt}
theorem qs_nil : QSs X E [] mNext := PSs.imp pss_nil fun Z σ H h => by
  obtain ⟨π, ρ, st, he, hr, h⟩ := h
  exact FinS.nx hr he h
theorem qs_cons (h1 : QS X E st m) (h2 : QSs X E rest n) : QSs X E (st :: rest) (mSeq m n) := PSs.imp (pss_cons h1 h2) fun Z σ H h => by
  obtain ⟨π, ρ, st, he, hr, h⟩ := h
  refine ⟨π, ρ, st, he, hr, ?_⟩
  have h' : FinS X.K E π H (match m ρ st with | .nx ρ' st' => n ρ' st' | r => r) Z := h
  cases q : m ρ st with
  | nx ρ1 st1 =>
    rw [q] at h'
    exact fun π2 H2 σ2 k2 r2 e2 => ⟨π2, ρ1, st1, e2, r2, FinS.shift k2 h'⟩
  | bk ρ1 st1 => rw [q] at h'; exact h'
  | ct ρ1 st1 => rw [q] at h'; exact h'
  | rt d st1 => rw [q] at h'; exact h'
  | exn c d st1 => rw [q] at h'; exact h'
  | bad => rw [q] at h'; exact h'
theorem qs_one (h1 : QS X E st m) : QSs X E [st] m := pss_one h1
theorem qs_pass : QS X E (.Pass pos) mNext := PS.imp ps_pass fun Z σ H h => by
  obtain ⟨π, ρ, st, he, hr, h⟩ := h
  exact FinS.nx hr he h
theorem qs_break : QS X E (.Break pos) mBk := PS.imp ps_break fun Z σ H h => by
  obtain ⟨π, ρ, st, he, hr, h⟩ := h
  exact h π H σ Keep.refl hr he
theorem qs_continue : QS X E (.Continue pos) mCt := PS.imp ps_continue fun Z σ H h => by
  obtain ⟨π, ρ, st, he, hr, h⟩ := h
  exact h π H σ Keep.refl hr he
theorem qs_ret (h : QE X E e me) : QS X E (.Return (some e) pos) (mRet me) := PS.imp (ps_ret h) fun Z σ H h => by
  obtain ⟨π, ρ, st, he, hr, h⟩ := h
  exact ⟨π, ρ, st, he, hr, FinR.mono h.ofR fun d π1 H1 st1 kp r1 hf v hv => hf π1 H1 v Keep.refl r1 hv⟩
theorem qs_retN : QS X E (.Return none pos) mRetN := PS.imp ps_retN fun Z σ H h => by
  obtain ⟨π, ρ, st, he, hr, h⟩ := h
  exact h π H .non Keep.refl hr rfl
theorem qs_expr (h : QE X E e me) (hs : swapsWith e none pos.line X.env = pure false := by rfl) : QS X E (.Expr e pos) (mDrop me) := PS.imp (ps_expr h hs) fun Z σ H h => by
  obtain ⟨π, ρ, st, he, hr, h⟩ := h
  exact ⟨π, ρ, st, he, hr, FinR.mono h.ofR fun d π1 H1 st1 kp r1 hf v hv => hf π1 H1 σ Keep.refl r1 (RelEnv.keep hr kp he)⟩
theorem qs_if (hc : QT X E c mt) (ha : QSs X E a m) (hb : QSs X E b n) : QS X E (.If c a b pos) (mIf mt m n) := PS.imp (ps_if hc ha hb) fun Z σ H h => by
  obtain ⟨π, ρ, st, he, hr, h⟩ := h
  refine ⟨π, ρ, st, he, hr, FinR.mono h.ofR fun b π1 H1 st1 kp r1 hf => ?_⟩
  cases b with
  | true => exact ⟨π1, ρ, st1, RelEnv.keep hr kp he, r1, hf⟩
  | false => exact ⟨π1, ρ, st1, RelEnv.keep hr kp he, r1, hf⟩
theorem qs_while (k : Nat) (hp : PassesOwn (model X.prog X.w) X.A X.env X.xe) (hc : QT X E c mt) (hb : QSs X E a m) : QS X E (.While c a [] pos) (mWhile mt m k) := PS.imp (ps_while hp hc hb) fun Z σ H h => by
  refine ⟨fun k σ H => ∃ π ρ st, RelEnv X.K π H ρ σ ∧ RelSt X.K π H st ∧ FinS X.K E π H (mWhile mt m k ρ st) Z, ⟨k, h⟩, ?_⟩
  rintro k σ H ⟨π, ρ, st, he, hr, h⟩
  cases k with
  | zero => exact h.elim
  | succ k =>
    refine ⟨π, ρ, st, he, hr, FinR.mono h.ofR fun b π1 H1 st1 kp r1 hf => ?_⟩
    have he1 := RelEnv.keep hr kp he
    cases b with
    | false => exact FinS.nx r1 he1 hf
    | true =>
      exact ⟨fun σ2 H2 => ∃ π ρ st, RelEnv X.K π H2 ρ σ2 ∧ RelSt X.K π H2 st ∧ FinS X.K E π H2 (mWhile mt m k ρ st) Z, fun σ2 H2 w => ⟨k, Nat.lt_succ_self k, w⟩, π1, ρ, st1, he1, r1,
        FinS.turn hf fun π5 H5 σ5 ρ5 st5 k5 r5 e5 h5 => ⟨π5, ρ5, st5, e5, r5, h5⟩⟩
end

/-! ### targets -/
abbrev MG := D → Rho → Store → R Rho
def LG (K : PySem.W.Frag) (E : XK) (g : MG) : TG := fun v σ H Q => ∃ π ρ st d, RelEnv K π H ρ σ ∧ RelSt K π H st ∧ Rv K π H d v ∧
  FinR K E π H (g d ρ st) fun ρ' π' H' _ => ∀ σ', RelEnv K π' H' ρ' σ' → Q σ' H'
abbrev QG (X : Cx) (E : XK) (e : Expr) (g : MG) : Prop := PG X e (LG X.K E g)
def gN (i : Nat) : MG := fun d ρ st => .ok (ρ.set i (some d)) st
theorem RelEnv.set {K : PySem.W.Frag} {π : List Addr} {H : Hp} {ρ : Rho} {σ : St} {d : D} {v : V} (h : RelEnv K π H ρ σ) (i : Nat) (hv : Rv K π H d v) : RelEnv K π H (ρ.set i (some d)) (σ.set i (some v)) := by
  refine ⟨by simpa using h.1, fun j x e => ?_⟩
  by_cases hj : j = i
  · subst hj
    by_cases hl : j < ρ.length
    · rw [List.getElem?_set_self hl] at e
      cases e
      exact ⟨v, List.getElem?_set_self (by rw [← h.1]; exact hl), hv⟩
    · rw [List.getElem?_eq_none (by simpa using hl)] at e; cases e
  · rw [List.getElem?_set_ne (Ne.symm hj)] at e ⊢
    exact h.2 j x e
/-- several targets -/
def gsN : List D → Rho → Store → R Rho := fun ds ρ st => match ds with
  | [] => .ok ρ st
  | _ => .bad
def gsC (g : MG) (gs : List D → Rho → Store → R Rho) : List D → Rho → Store → R Rho := fun ds ρ st => match ds with
  | d :: r => (g d ρ st).bind fun ρ1 s1 => gs r ρ1 s1
  | [] => .bad
def gT (n : Nat) (gs : List D → Rho → Store → R Rho) : MG := fun d ρ st => match tupD d with
  | some l => if l.length = n then gs l ρ st else .bad
  | none => .bad
def LGs (K : PySem.W.Frag) (E : XK) (g : List D → Rho → Store → R Rho) : TGs := fun vs σ H Q => ∃ π ρ st ds, RelEnv K π H ρ σ ∧ RelSt K π H st ∧ Rvs K π H ds vs ∧
  FinR K E π H (g ds ρ st) fun ρ' π' H' _ => ∀ σ', RelEnv K π' H' ρ' σ' → Q σ' H'
abbrev QGs (X : Cx) (E : XK) (es : List Expr) (g : List D → Rho → Store → R Rho) : Prop := PGs X es (LGs X.K E g)
theorem PGs.imp {X : Cx} {es : List Expr} {t t' : TGs} (h : PGs X es t) (hi : ∀ v σ H Q, t' v σ H Q → t v σ H Q) : PGs X es t' := ⟨fun pins s σ H v u Q I r q => h.run pins s σ H v u Q I r (hi _ _ _ _ q)⟩
def mAsg (me : Rho → Store → R D) (g : MG) : MS := fun ρ st => (me ρ st).toS fun d s => (g d ρ s).toS fun ρ' s' => .nx ρ' s'
section
variable {X : Cx} {E : XK} {e tg : Expr} {es : List Expr} {g : MG} {gs : List D → Rho → Store → R Rho} {me : Rho → Store → R D} {pos : Pos}
theorem lg_name {K : PySem.W.Frag} {i : Nat} {v : V} {σ : St} {H : Hp} {Q : St → Hp → Prop} (h : LG K E (gN i) v σ H Q) : gName i v σ H Q := by
  obtain ⟨π, ρ, st, d, he, hr, hv, h⟩ := h
  exact FinR.ok hr h _ (he.set i hv)
theorem qg_name {i : Nat} {x : Str} (h : PG X (.Name x pos) (gName i)) : QG X E (.Name x pos) (gN i) := PG.imp h fun _ _ _ _ h => lg_name h
theorem qgs_nil : QGs X E [] gsN := PGs.imp pgs_nil fun vs σ H Q h => by
  obtain ⟨π, ρ, st, ds, he, hr, hv, h⟩ := h
  cases ds with
  | nil => exact ⟨hv, FinR.ok hr h σ he⟩
  | cons => exact h.elim
theorem qgs_cons (h1 : QG X E e g) (h2 : QGs X E es gs) (hs : (assignEach (e :: es) X.env).map (·.2) = assign e X.env :: (assignEach es X.env).map (·.2) := by rfl) : QGs X E (e :: es) (gsC g gs) := PGs.imp (pgs_cons h1 h2 hs) fun vs σ H Q h => by
  obtain ⟨π, ρ, st, ds, he, hr, hv, h⟩ := h
  cases ds with
  | nil => exact h.elim
  | cons d r =>
    obtain ⟨v, vr, rfl, hv1, hv2⟩ := hv
    refine ⟨v, vr, rfl, π, ρ, st, d, he, hr, hv1, FinR.mono h.bindE fun ρ1 π1 H1 st1 kp r1 hf σ1 he1 => ?_⟩
    exact ⟨π1, ρ1, st1, r, he1, r1, Rvs.keep hr kp r hv2, hf⟩
theorem qg_tup {k n : Nat} (hc : X.calm = true) (h : QGs X E es gs) (hn : (assignEach es X.env).length = n := by rfl) (hst : (assignEach es X.env).findIdx? (·.1) = none := by rfl) : QG X E (.Tuple es k pos) (gT n gs) := PG.imp (pg_tup hc h hn hst) fun v σ H Q h => by
  obtain ⟨π, ρ, st, d, he, hr, hv, h⟩ := h
  unfold gT at h
  split at h
  · rename_i l el
    obtain ⟨a, vs, rfl, hq, hvs⟩ := tupD_ok hv el
    have h' : FinR X.K E π H (if l.length = n then gs l ρ st else .bad) _ := h
    by_cases hl : l.length = n
    · rw [if_pos hl] at h'
      exact ⟨a, vs, rfl, hq, by rw [← hvs.length]; exact hl, π, ρ, st, l, he, hr, hvs, h'⟩
    · rw [if_neg hl] at h'
      exact h'.elim
  · exact h.elim
theorem ls_asg {K : PySem.W.Frag} {σ : St} {H : Hp} {Z : Ends} (h : LS K E (mAsg me g) Z σ H) : tAsg (LE K E me) (LG K E g) Z σ H := by
  obtain ⟨π, ρ, st, he, hr, h⟩ := h
  refine ⟨π, ρ, st, he, hr, FinR.mono h.ofR fun d π1 H1 st1 kp r1 hf v hv => ?_⟩
  exact ⟨π1, ρ, st1, d, RelEnv.keep hr kp he, r1, hv, FinR.mono hf.ofR fun ρ2 π2 H2 st2 kp2 r2 hf2 σ2 he2 => FinS.nx r2 he2 hf2⟩
theorem qs_asg (h1 : QE X E e me) (h2 : QG X E tg g) (hs : swapsWithSole [tg] e pos.line X.env = pure false := by rfl) (hw : swappedStores [tg] e X.env = pure none := by rfl)
    (h3 : (assignEach [tg] X.env).map (·.2) = [assign tg X.env] := by rfl) : QS X E (.Assign [tg] e pos) (mAsg me g) := PS.imp (ps_asg h1 h2 hs hw h3) fun _ _ _ h => ls_asg h
end

/-! ### what is walked: at a turn, by the store, an item, or the end, or nothing is known -/
abbrev Src := Store → Nat → Option (Option D)
def ItSrc (K : PySem.W.Frag) (J : It) (src : Src) (π0 : List Addr) (H0 : Hp) : Prop := ∀ π H st (i : Nat), Keep π0 H0 π H → RelSt K π H st → match src st i with
  | some (some d) => J.go i H ∧ ∀ x H', J.yld i H x H' → Keep π H π H' ∧ RelSt K π H' st ∧ Rv K π H' d x
  | some none => J.stop i H
  | none => True
theorem ItSrc.keep {K : PySem.W.Frag} {J : It} {src : Src} {π0 π1 : List Addr} {H0 H1 : Hp} (h : ItSrc K J src π0 H0) (k : Keep π0 H0 π1 H1) : ItSrc K J src π1 H1 := fun π H st i k2 r => h π H st i (k.trans k2) r
def LI (K : PySem.W.Frag) (E : XK) (m : Rho → Store → R (Src × Nat)) : TI := fun σ H Rk => ∃ π ρ st, RelEnv K π H ρ σ ∧ RelSt K π H st ∧ FinR K E π H (m ρ st) fun p π' H' _ => ∀ J, ItSrc K J p.1 π' H' → Rk J H'
abbrev QI (X : Cx) (E : XK) (tg iter : Expr) (m : Rho → Store → R (Src × Nat)) : Prop := PI X tg iter (LI X.K E m)
theorem PI.imp {X : Cx} {tg e : Expr} {t t' : TI} (h : PI X tg e t) (hi : ∀ σ H Q, t' σ H Q → t σ H Q) : PI X tg e t' := ⟨fun pins s σ H Q I q => h.run pins s σ H Q I (hi _ _ _ q)⟩
/-- turns from the i-th on, at most k -/
def forS (src : Src) (g : MG) (m : MS) : Nat → Nat → MS
  | 0, i, ρ, st => match src st i with
    | some none => .nx ρ st
    | _ => .bad
  | k + 1, i, ρ, st => match src st i with
    | none => .bad
    | some none => .nx ρ st
    | some (some d) => (g d ρ st).toS fun ρ1 s1 => (m ρ1 s1).turn (forS src g m k (i + 1))
def mFor (ms : Rho → Store → R (Src × Nat)) (g : MG) (m : MS) : MS := fun ρ st => (ms ρ st).toS fun p s => forS p.1 g m p.2 0 ρ s
section
variable {X : Cx} {E : XK} {tg iter : Expr} {g : MG} {ms : Rho → Store → R (Src × Nat)} {m : MS} {body : List Stmt} {pos : Pos}
theorem qs_for (hp : PassesOwn (model X.prog X.w) X.A X.env X.xe) (hc : X.calm = true) (hi : QI X E tg iter ms) (hg : QG X E tg g) (hb : QSs X E body m) (hs : ∀ x, foldedSetIterable iter X.env x = pure x := by intro _; rfl) : QS X E (.For tg iter body [] pos) (mFor ms g m) := PS.imp (ps_for hp hc hi hg hb hs) fun Z σ H h => by
  obtain ⟨π, ρ, st, he, hr, h⟩ := h
  refine ⟨π, ρ, st, he, hr, FinR.mono h.ofR fun p π1 H1 st1 kp r1 hf J hJ => ?_⟩
  obtain ⟨src, n⟩ := p
  refine ⟨fun i k σ H => ∃ π ρ st, Keep π1 H1 π H ∧ RelEnv X.K π H ρ σ ∧ RelSt X.K π H st ∧ FinS X.K E π H (forS src g m k i ρ st) Z, ⟨n, π1, ρ, st1, Keep.refl, RelEnv.keep hr kp he, r1, hf⟩, ?_⟩
  rintro i k σ H ⟨π2, ρ2, st2, k2, he2, r2, h2⟩
  have hs : match src st2 i with
    | some (some d) => J.go i H ∧ ∀ x H', J.yld i H x H' → Keep π2 H π2 H' ∧ RelSt X.K π2 H' st2 ∧ Rv X.K π2 H' d x
    | some none => J.stop i H
    | none => True := hJ π2 H st2 i k2 r2
  cases k with
  | zero =>
    unfold forS at h2
    cases q : src st2 i with
    | none => rw [q] at h2; exact h2.elim
    | some o =>
      cases o with
      | none => rw [q] at h2 hs; exact .inl ⟨hs, FinS.nx r2 he2 h2⟩
      | some d => rw [q] at h2; exact h2.elim
  | succ k =>
    unfold forS at h2
    cases q : src st2 i with
    | none => rw [q] at h2; exact h2.elim
    | some o =>
      cases o with
      | none => rw [q] at h2 hs; exact .inl ⟨hs, FinS.nx r2 he2 h2⟩
      | some d =>
        rw [q] at h2 hs
        obtain ⟨hgo, hy⟩ := hs
        refine .inr ⟨hgo, fun σ H => ∃ π ρ st, Keep π1 H1 π H ∧ RelEnv X.K π H ρ σ ∧ RelSt X.K π H st ∧ FinS X.K E π H (forS src g m k (i + 1) ρ st) Z, fun σ3 H3 w => ⟨k, Nat.lt_succ_self k, w⟩, fun x H3 y => ?_⟩
        obtain ⟨ky, ry, vy⟩ := hy x H3 y
        refine ⟨π2, ρ2, st2, d, RelEnv.keep r2 ky he2, ry, vy, FinR.mono (FinS.ofR (FinS.shift ky h2)) fun ρ4 π4 H4 st4 k4 r4 hf4 σ4 he4 => ?_⟩
        exact ⟨π4, ρ4, st4, he4, r4, FinS.turn hf4 fun π5 H5 σ5 ρ5 st5 k5 r5 e5 h5 => ⟨π5, ρ5, st5, ((k2.trans ky).trans k4).trans k5, e5, r5, h5⟩⟩
end

/-! ### defs -/
abbrev FD := List D → Store → R D
def LF (K : PySem.W.Frag) (n : Nat) (f : FD) : Sp := fun vs H Q E => ∃ π ds st, ds.length = n ∧ Rvs K π H ds vs ∧ RelSt K π H st ∧ FinR K E π H (f ds st) fun d π' H' _ => ∀ v, Rv K π' H' d v → Q v H'
/-- what a body makes of the arguments: n slots in all -/
def mDef (n : Nat) (m : MS) : FD := fun ds st => match m (ds.map some ++ List.replicate (n - ds.length) none) st with
  | .rt d s => .ok d s
  | .nx _ s => .ok .non s
  | .exn c d s => .exn c d s
  | _ => .bad
section
variable {K : PySem.W.Frag} {E : XK}
theorem start_env {π : List Addr} {H : Hp} {ds : List D} {vs : List V} {N : List Str} (h : Rvs K π H ds vs) (hl : ds.length ≤ N.length) : RelEnv K π H (ds.map some ++ List.replicate (N.length - ds.length) none) (start N vs) := by
  have e := h.length
  have hs : start N vs = vs.map some ++ List.replicate (N.length - vs.length) none := rfl
  rw [hs]
  refine ⟨by simp; omega, fun i d q => ?_⟩
  by_cases hi : i < ds.length
  · rw [List.getElem?_append_left (by simpa using hi), List.getElem?_map] at q
    obtain ⟨x, e1, e2⟩ : ∃ x, ds[i]? = some x ∧ some x = some d := by
      cases z : ds[i]? with
      | none => rw [z] at q; cases q
      | some x => rw [z] at q; exact ⟨x, rfl, by simpa using q⟩
    cases e2
    obtain ⟨v, f1, f2⟩ := h.get e1
    refine ⟨v, ?_, f2⟩
    rw [List.getElem?_append_left (by rw [List.length_map, ← e]; exact hi), List.getElem?_map, f1]; rfl
  · rw [List.getElem?_append_right (by simpa using Nat.le_of_not_lt hi)] at q
    rw [List.getElem?_replicate] at q
    split at q
    · cases q
    · cases q
/-- a body's reading gives the def's -/
theorem body_of {n : Nat} {N : List Str} {m : MS} {vs : List V} {H : Hp} {Q : VK} (hn : N.length = n) (h : LF K vs.length (mDef n m) vs H Q E) (hl : vs.length ≤ n) : LS K E m { nx := fun _ H' => Q .non H', rt := Q } (start N vs) H := by
  obtain ⟨π, ds, st, e, hv, hr, h⟩ := h
  subst hn
  refine ⟨π, _, st, start_env hv (by omega), hr, ?_⟩
  unfold mDef at h
  cases q : m (ds.map some ++ List.replicate (N.length - ds.length) none) st with
  | nx ρ1 st1 => rw [q] at h; exact fun π' H' σ' k r e => h π' H' k r .non rfl
  | rt d st1 => rw [q] at h; exact fun π' H' v k r e => h π' H' k r v e
  | exn c d st1 => rw [q] at h; exact h
  | bk ρ1 st1 => rw [q] at h; exact h.elim
  | ct ρ1 st1 => rw [q] at h; exact h.elim
  | bad => rw [q] at h; exact h.elim
end
end RQ

/-! S2: the store; new cells, changed cells; temporary lists; numbers, texts, lists, tuples. -/
namespace RQ
open PySem L2

/-! ### the store -/
section
variable {K : PySem.W.Frag} {π π' : List Addr} {H H' : Hp} {st st' : Store} {a p : Addr} {o : HO}
theorem PairedMono {α β : Type} {F G : α → β → Prop} : ∀ {l₁ : List α} {l₂ : List β}, Paired F l₁ l₂ → (∀ a b, F a b → G a b) → Paired G l₁ l₂
  | _, _, .nil, _ => .nil
  | _, _, .cons r t, f => .cons (f _ _ r) (PairedMono t f)
theorem RelD.keep (r : RelSt K π H st) (k : Keep π H π' H') {t : Bool} {l : List (D × D)} (h : RelD K π H t l o) : RelD K π' H' t l o := by
  cases t
  all_goals
    obtain ⟨kv, e, q⟩ := h
    exact ⟨kv, e, PairedMono q fun _ _ z => ⟨z.1, Rv.keep r k _ z.2⟩⟩
theorem RelC.keep (r : RelSt K π H st) (k : Keep π H π' H') {c : Cell} (h : RelC K π H c o) : RelC K π' H' c o := by
  cases c with
  | lst l => obtain ⟨vs, e, q⟩ := h; exact ⟨vs, e, Rvs.keep r k l q⟩
  | dic t l => exact RelD.keep r k h
  | lck t l => obtain ⟨ob, u, e, q⟩ := h; exact ⟨ob, u, e, RelD.keep r k q⟩
  | ins c fs => obtain ⟨dx, fs', e, q⟩ := h; exact ⟨dx, fs', e, PairedMono q fun _ _ z => ⟨z.1, Rv.keep r k _ z.2⟩⟩
theorem RelSt.at (r : RelSt K π H st) {n : Nat} {c : Cell} (h : st[n]? = some c) : ∃ a o, π[n]? = some a ∧ H a = some o ∧ RelC K π H c o := r.cells n c h
theorem RelSt.none_out (r : RelSt K π H st) (h : H p = none) : p ∉ π := by
  intro hm
  obtain ⟨i, hi⟩ := List.getElem?_of_mem hm
  have hl : i < st.length := by rw [r.len]; exact (List.getElem?_eq_some_iff.mp hi).1
  obtain ⟨a', o', e1, e2, _⟩ := r.cells i st[i] (List.getElem?_eq_some_iff.mpr ⟨hl, rfl⟩)
  rw [hi] at e1; cases e1
  rw [h] at e2; cases e2
/-- what is fresh now was fresh before -/
theorem Keep.fresh (r : RelSt K π H st) (r' : RelSt K π' H' st') (k : Keep π H π' H') (h : H' p = none) : H p = none := by
  cases q : H p with
  | none => rfl
  | some o =>
    by_cases hm : p ∈ π
    · obtain ⟨s, e⟩ := k.pre
      exact absurd (by rw [e]; exact List.mem_append_left _ hm) (r'.none_out h)
    · have := (k.old p o q hm).1
      rw [h] at this; cases this
/-- a fresh object that the store does not have -/
theorem keep_new (r : RelSt K π H st) (h : H p = none) : Keep π H π (upd H p o) := ⟨⟨[], by simp⟩, fun b u e n => ⟨by rw [upd_ne (ne_of_none e h)]; exact e, n⟩⟩
theorem relSt_same (r : RelSt K π H st) (k : Keep π H π H') (hs : ∀ b u, b ∈ π → H b = some u → H' b = some u) : RelSt K π H' st :=
  ⟨r.len, r.nd, fun n c e => by
    obtain ⟨a, o, h1, h2, h3⟩ := r.cells n c e
    exact ⟨a, o, h1, hs a o (List.mem_of_getElem? h1) h2, RelC.keep r k h3⟩⟩
theorem RelSt.new (r : RelSt K π H st) (h : H p = none) : RelSt K π (upd H p o) st := relSt_same r (keep_new r h) fun b u _ e => by rw [upd_ne (ne_of_none e h)]; exact e
/-- .. that becomes the store's -/
theorem keep_alloc (r : RelSt K π H st) (h : H p = none) : Keep π H (π ++ [p]) (upd H p o) := ⟨⟨[p], rfl⟩, fun b u e n => by
  have hb : b ≠ p := ne_of_none e h
  refine ⟨by rw [upd_ne hb]; exact e, fun hm => ?_⟩
  rcases List.mem_append.mp hm with hm | hm
  · exact n hm
  · exact hb (by simpa using hm)⟩
theorem RelSt.alloc (r : RelSt K π H st) (h : H p = none) {c : Cell} (hc : RelC K (π ++ [p]) (upd H p o) c o) : RelSt K (π ++ [p]) (upd H p o) (st ++ [c]) := by
  have np := r.none_out h
  refine ⟨by simp [r.len], ?_, fun n x e => ?_⟩
  · rw [List.nodup_append]
    exact ⟨r.nd, by simp, fun x hx y hy => by
      have : y = p := by simpa using hy
      subst this
      exact fun q => np (q ▸ hx)⟩
  · by_cases hn : n < st.length
    · rw [List.getElem?_append_left hn] at e
      obtain ⟨a, u, h1, h2, h3⟩ := r.cells n x e
      refine ⟨a, u, ?_, by rw [upd_ne (ne_of_none h2 h)]; exact h2, RelC.keep r (keep_alloc r h) h3⟩
      rw [List.getElem?_append_left (by rw [← r.len]; exact hn)]; exact h1
    · rw [List.getElem?_append_right (Nat.le_of_not_lt hn)] at e
      have hz : n - st.length = 0 := by
        cases q : n - st.length with
        | zero => rfl
        | succ k => rw [q] at e; simp at e
      rw [hz] at e
      simp at e
      subst e
      have hn' : n = π.length := by have := r.len; omega
      subst hn'
      exact ⟨p, o, by simp, upd_same, hc⟩
/-- an object that the store does not have (a temporary list) becomes the store's -/
theorem Keep.adopt {H0 : Hp} {π0 : List Addr} (k : Keep π0 H0 π H) (hp : H0 p = none) : Keep π0 H0 (π ++ [p]) H := by
  obtain ⟨s, e⟩ := k.pre
  refine ⟨⟨s ++ [p], by rw [e, List.append_assoc]⟩, fun b u h n => ?_⟩
  obtain ⟨h1, h2⟩ := k.old b u h n
  refine ⟨h1, fun hm => ?_⟩
  rcases List.mem_append.mp hm with hm | hm
  · exact h2 hm
  · have : b = p := by simpa using hm
    subst this
    rw [hp] at h; cases h
theorem Rv.more (q : List Addr) : ∀ (d : D) {v : V}, Rv K π H d v → Rv K (π ++ q) H d v
  | .non, _, h => h
  | .bl _, _, h => h
  | .int _, _, h => h
  | .str _, _, h => h
  | .tup l, v, h => by
    obtain ⟨a, vs, e, z, h⟩ := h
    exact ⟨a, vs, e, z, go l h⟩
  | .ktup l, v, h => by
    obtain ⟨a, vs, e, z, h⟩ := h
    exact ⟨a, vs, e, z, go l h⟩
  | .ref n, v, h => by
    obtain ⟨a, e, rfl⟩ := h
    exact ⟨a, by rw [List.getElem?_append_left (List.getElem?_eq_some_iff.mp e).1]; exact e, rfl⟩
  | .exc c d, v, h => by
    obtain ⟨a, dd, w, e, h1, h2, h3⟩ := h
    exact ⟨a, dd, w, e, h1, h2, Rv.more q d h3⟩
  | .scr l, v, h => h
where go : ∀ (l : List D) {vs : List V}, Rvs K π H l vs → Rvs K (π ++ q) H l vs
  | [], _, h => h
  | d :: l, vs, h => by
    obtain ⟨v, r, e, h1, h2⟩ := h
    exact ⟨v, r, e, Rv.more q d h1, go l h2⟩
theorem Rvs.more (q : List Addr) : ∀ (l : List D) {vs : List V}, Rvs K π H l vs → Rvs K (π ++ q) H l vs
  | [], _, h => h
  | d :: l, vs, h => by
    obtain ⟨v, r, e, h1, h2⟩ := h
    exact ⟨v, r, e, Rv.more q d h1, Rvs.more q l h2⟩
theorem RelC.more (q : List Addr) {c : Cell} (h : RelC K π H c o) : RelC K (π ++ q) H c o := by
  have dd : ∀ {t : Bool} {l : List (D × D)} {o : HO}, RelD K π H t l o → RelD K (π ++ q) H t l o := fun {t l o} h => by
    cases t
    all_goals
      obtain ⟨kv, e, z⟩ := h
      exact ⟨kv, e, PairedMono z fun _ _ y => ⟨y.1, Rv.more q _ y.2⟩⟩
  cases c with
  | lst l => obtain ⟨vs, e, z⟩ := h; exact ⟨vs, e, Rvs.more q l z⟩
  | dic t l => exact dd h
  | lck t l => obtain ⟨ob, u, e, z⟩ := h; exact ⟨ob, u, e, dd z⟩
  | ins c fs => obtain ⟨dx, fs', e, z⟩ := h; exact ⟨dx, fs', e, PairedMono z fun _ _ y => ⟨y.1, Rv.more q _ y.2⟩⟩
theorem RelSt.adopt (r : RelSt K π H st) (np : p ∉ π) {c : Cell} (hp : H p = some o) (hc : RelC K π H c o) : RelSt K (π ++ [p]) H (st ++ [c]) := by
  refine ⟨by simp [r.len], ?_, fun n x e => ?_⟩
  · rw [List.nodup_append]
    exact ⟨r.nd, by simp, fun x hx y hy => by
      have : y = p := by simpa using hy
      subst this
      exact fun q => np (q ▸ hx)⟩
  · by_cases hn : n < st.length
    · rw [List.getElem?_append_left hn] at e
      obtain ⟨a, u, h1, h2, h3⟩ := r.cells n x e
      refine ⟨a, u, ?_, h2, RelC.more _ h3⟩
      rw [List.getElem?_append_left (by rw [← r.len]; exact hn)]; exact h1
    · rw [List.getElem?_append_right (Nat.le_of_not_lt hn)] at e
      have hz : n - st.length = 0 := by
        cases q : n - st.length with
        | zero => rfl
        | succ k => rw [q] at e; simp at e
      rw [hz] at e
      simp at e
      subst e
      have hn' : n = π.length := by have := r.len; omega
      subst hn'
      exact ⟨p, o, by simp, hp, RelC.more _ hc⟩
/-- a cell is changed -/
theorem keep_write {n : Nat} (hn : π[n]? = some a) : Keep π H π (upd H a o) := ⟨⟨[], by simp⟩, fun b u e nb => ⟨by rw [upd_ne (show b ≠ a from fun q => nb (by rw [q]; exact List.mem_of_getElem? hn))]; exact e, nb⟩⟩
theorem RelSt.write (r : RelSt K π H st) {n : Nat} {c : Cell} (hn : π[n]? = some a) (hc : RelC K π (upd H a o) c o) : RelSt K π (upd H a o) (st.set n c) := by
  refine ⟨by simp [r.len], r.nd, fun i x e => ?_⟩
  by_cases hi : i = n
  · subst hi
    have hl : i < st.length := by
      have := (List.getElem?_eq_some_iff.mp hn).1
      rw [r.len]; exact this
    rw [List.getElem?_set_self hl] at e
    cases e
    exact ⟨a, o, hn, upd_same, hc⟩
  · rw [List.getElem?_set_ne (Ne.symm hi)] at e
    obtain ⟨b, u, h1, h2, h3⟩ := r.cells i x e
    have hb : b ≠ a := fun q => by
      subst q
      obtain ⟨l1, e1⟩ := List.getElem?_eq_some_iff.mp h1
      obtain ⟨l2, e2⟩ := List.getElem?_eq_some_iff.mp hn
      exact hi ((List.getElem_inj r.nd).mp (e1.trans e2.symm))
    exact ⟨b, u, h1, by rw [upd_ne hb]; exact h2, RelC.keep r (keep_write hn) h3⟩
end

/-! ### reading a value -/
section
variable {K : PySem.W.Frag} {π : List Addr} {H : Hp} {st : Store}
theorem Rv.ref_lst (r : RelSt K π H st) {n : Nat} {v : V} {l : List D} (h : Rv K π H (.ref n) v) (e : st[n]? = some (.lst l)) : ∃ a vs, π[n]? = some a ∧ v = .ref a ∧ H a = some (.lst vs) ∧ Rvs K π H l vs := by
  obtain ⟨a, e1, rfl⟩ := h
  obtain ⟨a', o, e2, e3, vs, rfl, h⟩ := r.cells n _ e
  rw [e1] at e2; cases e2
  exact ⟨a, vs, e1, rfl, e3, h⟩
theorem Rv.ref_dic (r : RelSt K π H st) {n : Nat} {v : V} {t : Bool} {l : List (D × D)} (h : Rv K π H (.ref n) v) (e : st[n]? = some (.dic t l)) : ∃ a o, π[n]? = some a ∧ v = .ref a ∧ H a = some o ∧ RelD K π H t l o := by
  obtain ⟨a, e1, rfl⟩ := h
  obtain ⟨a', o, e2, e3, h⟩ := r.cells n _ e
  rw [e1] at e2; cases e2
  exact ⟨a, o, e1, rfl, e3, h⟩
theorem Rv.ref_ins (r : RelSt K π H st) {n c : Nat} {v : V} {fs : List (Nat × D)} (h : Rv K π H (.ref n) v) (e : st[n]? = some (.ins c fs)) :
    ∃ a dx fs', π[n]? = some a ∧ v = .ref a ∧ H a = some (.ins (cad K c) dx fs') ∧ Paired (fun p q => fname p.1 = q.1 ∧ Rv K π H p.2 q.2) fs fs' := by
  obtain ⟨a, e1, rfl⟩ := h
  obtain ⟨a', o, e2, e3, dx, fs', rfl, h⟩ := r.cells n _ e
  rw [e1] at e2; cases e2
  exact ⟨a, dx, fs', e1, rfl, e3, h⟩
theorem FinB.some {d : D} {Q : VK} {v : V} (r : RelSt K π H st) (h : FinB K π H (some (d, st)) Q) (hv : Rv K π H d v) : Q v H := h π H Keep.refl r v hv
end

/-! ### numbers -/
def bAdd0 : D → D → Store → B := fun a b st => match a, b with
  | .int i, .int j => some (.int (i + j), st)
  | _, _ => none
def bSub : D → D → Store → B := fun a b st => match a, b with
  | .int i, .int j => some (.int (i - j), st)
  | _, _ => none
def bNeg : D → Store → B := fun a st => match a with
  | .int i => some (.int (-i), st)
  | _ => none
/-- a fits into 64 bits -/
def fits64 (i : Int) : Bool := decide (-(2 ^ 64) < i ∧ i < 2 ^ 64)
def bMul0 : D → D → Store → B := fun a b st => match a, b with
  | .int i, .int j => if fits64 i || fits64 j then some (.int (i * j), st) else none
  | _, _ => none
def bDiv : D → D → Store → B := fun a b st => match a, b with
  | .int i, .int j => if decide (0 < j ∧ j < 1073741824) then some (.int (i / j), st) else none
  | _, _ => none
def bMod : D → D → Store → B := fun a b st => match a, b with
  | .int i, .int j => if decide (0 < j) then some (.int (i % j), st) else none
  | _, _ => none
def bLt0 : D → D → Store → B := fun a b st => match a, b with
  | .int i, .int j => some (.bl (decide (i < j)), st)
  | .str x, .str y => some (.bl (decide (x.cps.toList < y.cps.toList)), st)
  | _, _ => none
def bLe0 : D → D → Store → B := fun a b st => match a, b with
  | .int i, .int j => some (.bl (decide (i ≤ j)), st)
  | _, _ => none
def bGt0 : D → D → Store → B := fun a b st => match a, b with
  | .int i, .int j => some (.bl (decide (j < i)), st)
  | _, _ => none
def bGe0 : D → D → Store → B := fun a b st => match a, b with
  | .int i, .int j => some (.bl (decide (j ≤ i)), st)
  | _, _ => none
def isNonD : D → Bool
  | .non => true
  | _ => false
def bIsN : D → D → Store → B := fun a b st => match b with
  | .non => some (.bl (isNonD a), st)
  | _ => none
def bNotN : D → D → Store → B := fun a b st => match b with
  | .non => some (.bl (!isNonD a), st)
  | _ => none
section
variable {X : Cx}
/-- the library's rule on whole numbers, lifted -/
theorem opS_int {f : Value → Value → Sem Value} {C : Int → Int → Prop} {g : Int → Int → V} {F : D → D → Store → B} (ho : OpR X f (rI C g))
    (hF : ∀ a b st, (∃ i j, a = .int i ∧ b = .int j ∧ C i j ∧ ∃ d, F a b st = some (d, st) ∧ ∀ π H, Rv X.K π H d (g i j)) ∨ F a b st = none) : OpS X f F := by
  intro pins s σ H x y v u Q I rx ry h
  obtain ⟨π, st, a, b, hr, ha, hb, h⟩ := h
  rcases hF a b st with ⟨i, j, rfl, rfl, hc, d, e, hd⟩ | e
  · rw [e] at h
    exact ho pins s σ H x y v u Q I rx ry ⟨i, j, ha, hb, hc, FinB.some hr h (hd _ _)⟩
  · rw [e] at h
    exact h.elim
theorem opS_int0 {f : Value → Value → Sem Value} {g : Int → Int → V} {F : D → D → Store → B} (ho : OpR X f (rI0 g))
    (hF : ∀ a b st, (∃ i j, a = .int i ∧ b = .int j ∧ ∃ d, F a b st = some (d, st) ∧ ∀ π H, Rv X.K π H d (g i j)) ∨ F a b st = none) : OpS X f F := by
  intro pins s σ H x y v u Q I rx ry h
  obtain ⟨π, st, a, b, hr, ha, hb, h⟩ := h
  rcases hF a b st with ⟨i, j, rfl, rfl, d, e, hd⟩ | e
  · rw [e] at h
    exact ho pins s σ H x y v u Q I rx ry ⟨i, j, ha, hb, FinB.some hr h (hd _ _)⟩
  · rw [e] at h
    exact h.elim
theorem os_sub : OpS X (binaryOp .Sub) bSub := opS_int0 op_sub fun a b st => by
  cases a with
  | int i => cases b with
    | int j => exact .inl ⟨i, j, rfl, rfl, _, rfl, fun _ _ => rfl⟩
    | _ => exact .inr rfl
  | _ => exact .inr rfl
theorem os_mul0 : OpS X (binaryOp .Mult) bMul0 := opS_int op_mul fun a b st => by
  cases a with
  | int i => cases b with
    | int j =>
      show (∃ i' j', _ ∧ _ ∧ CMul i' j' ∧ ∃ d, (if (fits64 i || fits64 j) = true then some (D.int (i * j), st) else none) = some (d, st) ∧ _) ∨ (if (fits64 i || fits64 j) = true then some (D.int (i * j), st) else none) = none
      cases q : (fits64 i || fits64 j) with
      | false => exact .inr (if_neg Bool.false_ne_true)
      | true =>
        refine .inl ⟨i, j, rfl, rfl, ?_, .int (i * j), if_pos rfl, fun _ _ => rfl⟩
        rcases Bool.or_eq_true_iff.mp q with q | q
        · exact .inl (of_decide_eq_true q)
        · exact .inr (of_decide_eq_true q)
    | _ => exact .inr rfl
  | _ => exact .inr rfl
theorem os_div : OpS X (binaryOp .FloorDiv) bDiv := opS_int op_fdiv fun a b st => by
  cases a with
  | int i => cases b with
    | int j =>
      by_cases q : 0 < j ∧ j < 1073741824
      · exact .inl ⟨i, j, rfl, rfl, q, .int (i / j), if_pos (decide_eq_true q), fun _ _ => rfl⟩
      · exact .inr (if_neg (by simpa using q))
    | _ => exact .inr rfl
  | _ => exact .inr rfl
theorem os_mod : OpS X (binaryOp .Mod) bMod := opS_int op_mod fun a b st => by
  cases a with
  | int i => cases b with
    | int j =>
      by_cases q : 0 < j
      · exact .inl ⟨i, j, rfl, rfl, q, .int (i % j), if_pos (decide_eq_true q), fun _ _ => rfl⟩
      · exact .inr (if_neg (by simpa using q))
    | _ => exact .inr rfl
  | _ => exact .inr rfl
theorem os_lt0 : OpS X (compareOp .Lt) bLt0 := by
  intro pins s σ H x y v u Q I rx ry h
  obtain ⟨π, st, a, b, hr, ha, hb, h⟩ := h
  cases a with
  | int i => cases b with
    | int j => exact op_lt pins s σ H x y v u Q I rx ry ⟨i, j, ha, hb, FinB.some hr h rfl⟩
    | _ => exact h.elim
  | str i => cases b with
    | str j => exact op_lt_str pins s σ H x y v u Q I rx ry ⟨i, j, ha, hb, FinB.some hr h rfl⟩
    | _ => exact h.elim
  | _ => exact h.elim
theorem os_le0 : OpS X (compareOp .LtE) bLe0 := opS_int0 op_le fun a b st => by
  cases a with
  | int i => cases b with
    | int j => exact .inl ⟨i, j, rfl, rfl, _, rfl, fun _ _ => rfl⟩
    | _ => exact .inr rfl
  | _ => exact .inr rfl
theorem os_gt0 : OpS X (compareOp .Gt) bGt0 := opS_int0 op_gt fun a b st => by
  cases a with
  | int i => cases b with
    | int j => exact .inl ⟨i, j, rfl, rfl, _, rfl, fun _ _ => rfl⟩
    | _ => exact .inr rfl
  | _ => exact .inr rfl
theorem os_ge0 : OpS X (compareOp .GtE) bGe0 := opS_int0 op_ge fun a b st => by
  cases a with
  | int i => cases b with
    | int j => exact .inl ⟨i, j, rfl, rfl, _, rfl, fun _ _ => rfl⟩
    | _ => exact .inr rfl
  | _ => exact .inr rfl
theorem isN_of {K : PySem.W.Frag} {π : List Addr} {H : Hp} {d : D} {v : V} (h : Rv K π H d v) : decide (v = .non) = isNonD d := by
  cases d with
  | non => cases h; rfl
  | bl b => cases h; rfl
  | int i => cases h; rfl
  | str x => cases h; rfl
  | tup l => obtain ⟨a, vs, rfl, _⟩ := h; rfl
  | ktup l => obtain ⟨a, vs, rfl, _⟩ := h; rfl
  | ref n => obtain ⟨a, _, rfl⟩ := h; rfl
  | exc c d => obtain ⟨a, dd, w, rfl, _⟩ := h; rfl
  | scr l => obtain ⟨a, rfl, _⟩ := h; rfl
theorem os_isN : OpS X (compareOp .Is) bIsN := by
  intro pins s σ H x y v u Q I rx ry h
  obtain ⟨π, st, a, b, hr, ha, hb, h⟩ := h
  cases b with
  | non => exact op_isN pins s σ H x y v u Q I rx ry ⟨hb, FinB.some hr h (by show _ = V.bl _; rw [isN_of ha])⟩
  | _ => exact h.elim
theorem os_notN : OpS X (compareOp .IsNot) bNotN := by
  intro pins s σ H x y v u Q I rx ry h
  obtain ⟨π, st, a, b, hr, ha, hb, h⟩ := h
  cases b with
  | non =>
    refine op_notN pins s σ H x y v u Q I rx ry ⟨hb, FinB.some hr h ?_⟩
    show V.bl (!decide (x = .non)) = V.bl _
    rw [isN_of ha]
  | _ => exact h.elim
theorem us_neg : UnR X (unaryOp .USub) (rOf1 X.K bNeg) := by
  intro pins s σ H x v Q I rx h
  obtain ⟨π, st, a, hr, ha, h⟩ := h
  cases a with
  | int i => exact un_neg pins s σ H x v Q I rx ⟨i, ha, FinB.some hr h rfl⟩
  | _ => exact h.elim
end

/-! ### temporary lists: an expression that makes a list which no name has yet -/
def LL (K : PySem.W.Frag) (E : XK) (m : Rho → Store → R (List D)) : TE := fun σ H Q => ∃ π ρ st, RelEnv K π H ρ σ ∧ RelSt K π H st ∧ FinR K E π H (m ρ st) fun ds π' H' _ =>
  ∀ p vs, H p = none → p ∉ π' → H' p = some (.lst vs) → Rvs K π' H' ds vs → Q (.ref p) H'
abbrev QL (X : Cx) (E : XK) (e : Expr) (m : Rho → Store → R (List D)) : Prop := PE X e (LL X.K E m)
/-- it gets a cell -/
def mNew (m : Rho → Store → R (List D)) : Rho → Store → R D := fun ρ st => (m ρ st).bind fun ds s => .ok (.ref s.length) (s ++ [.lst ds])
section
variable {X : Cx} {E : XK} {e : Expr} {m : Rho → Store → R (List D)} {es : List Expr} {pos : Pos}
theorem qe_new (h : QL X E e m) : QE X E e (mNew m) := PE.imp h fun σ H Q h => by
  obtain ⟨π, ρ, st, he, hr, h⟩ := h
  refine ⟨π, ρ, st, he, hr, ?_⟩
  have h' : FinR X.K E π H ((m ρ st).bind fun ds s => .ok (D.ref s.length) (s ++ [.lst ds])) _ := h
  cases q : m ρ st with
  | bad => rw [q] at h'; exact h'.elim
  | exn c d st1 => rw [q] at h'; exact h'
  | ok ds st1 =>
    rw [q] at h'
    intro π1 H1 k1 r1 p vs hp np e1 hv
    have r2 := r1.adopt np (c := .lst ds) e1 ⟨vs, rfl, hv⟩
    exact h' (π1 ++ [p]) H1 (k1.adopt hp) r2 (.ref p) ⟨p, by rw [r1.len]; simp, rfl⟩
/-- [a, b, ..] -/
def small (n : Nat) : Bool := decide (n ≤ 1000000)
theorem small_ok {n : Nat} (h : small n = true) : n ≤ sizeLine := Nat.le_trans (of_decide_eq_true h) (by rw [sizeLine_eq]; decide)
theorem small_lt {n : Nat} (h : small n = true) : n < sizeLine := Nat.lt_of_le_of_lt (of_decide_eq_true h) (by rw [sizeLine_eq]; decide)
def mLst (m : Rho → Store → R (List D)) : Rho → Store → R (List D) := fun ρ st => (m ρ st).bind fun ds s => if small ds.length then .ok ds s else .bad
theorem ql_lst (h : QA X E es m) : QL X E (.List es pos) (mLst m) := PE.imp (pe_lst h) fun σ H Q h => by
  obtain ⟨π, ρ, st, he, hr, h⟩ := h
  refine ⟨π, ρ, st, he, hr, FinR.mono h.bindE fun ds π1 H1 st1 k1 r1 hf vs hv => ?_⟩
  by_cases hs : small ds.length = true
  · rw [if_pos hs] at hf
    refine ⟨by rw [← hv.length]; exact small_ok hs, fun p hp => ?_⟩
    have kn := keep_new (o := .lst vs) r1 hp
    exact hf π1 _ kn (r1.new hp) p vs (k1.fresh hr r1 hp) (r1.none_out hp) upd_same (Rvs.keep r1 kn ds hv)
  · rw [if_neg hs] at hf
    exact hf.elim
/-- (a, b, ..) -/
def mTup (m : Rho → Store → R (List D)) : Rho → Store → R D := fun ρ st => (m ρ st).bind fun ds s => if small ds.length then .ok (.tup ds) s else .bad
theorem qe_tup {x1} (h : QA X E es m) : QE X E (.Tuple es x1 pos) (mTup m) := PE.imp (pe_tup h) fun σ H Q h => by
  obtain ⟨π, ρ, st, he, hr, h⟩ := h
  refine ⟨π, ρ, st, he, hr, FinR.mono h.bindE fun ds π1 H1 st1 k1 r1 hf vs hv => ?_⟩
  by_cases hs : small ds.length = true
  · rw [if_pos hs] at hf
    refine ⟨by rw [← hv.length]; exact small_ok hs, fun p hp => ?_⟩
    have kn := keep_new (o := .tup vs) r1 hp
    exact hf π1 _ kn (r1.new hp) (.ref p) ⟨p, vs, rfl, upd_same, Rvs.keep r1 kn ds hv⟩
  · rw [if_neg hs] at hf
    exact hf.elim
end
end RQ

/-! S3: calls of built-ins, sequences, subscripts, slices, +, ==, in, methods of lists, what is walked. -/
namespace RQ
open PySem L2

/-! ### calls of built-ins by values -/
def mB (f : List D → Store → B) (ms : Rho → Store → R (List D)) : Rho → Store → R D := fun ρ st => (ms ρ st).bind fun ds s => ofB (f ds s)
section
variable {X : Cx} {E : XK} {e : Expr} {es : List Expr} {ms : Rho → Store → R (List D)} {f : List D → Store → B} {x : Str} {p pos : Pos} {id T : String}
theorem le_B {K : PySem.W.Frag} {σ : St} {H : Hp} {Q : VK} (h : LE K E (mB f ms) σ H Q) : tCB (rOfL K f) (LA K E ms) σ H Q := by
  obtain ⟨π, ρ, st, he, hr, h⟩ := h
  exact ⟨π, ρ, st, he, hr, FinR.mono h.bindE fun ds π1 H1 st1 k1 r1 hf vs hv => ⟨π1, st1, ds, r1, hv, finB_of hf⟩⟩
theorem qe_callB (hc : CallR X (.builtin id) (rOfL X.K f)) (hm : X.mg x = none) (hv : bootBuiltins x = some (.builtin id)) (ha : QA X E (e :: es) ms) (hg : Gl X x := by rfl) (hn : x ≠ "__name__" := by decide) (hdb : (x == ("__debug__" : Str)) = false := by decide)
    (he : starEach (e :: es) X.env = (false, eval e X.env) :: starEach es X.env := by rfl) (hpl : (backTo pos (starEach es X.env)).any (·.1) = false := by rfl) : QE X E (.Call (.Name x p) (e :: es) [] pos) (mB f ms) :=
  PE.imp (pe_callB hc hg hm hv ha hn hdb he hpl) fun _ _ _ h => le_B h
theorem qe_callTy (hc : CallR X (.type T) (rOfL X.K f)) (hm : X.mg x = none) (hv : bootBuiltins x = some (.type T)) (ha : QA X E (e :: es) ms) (hg : Gl X x := by rfl) (hn : x ≠ "__name__" := by decide) (hdb : (x == ("__debug__" : Str)) = false := by decide)
    (he : starEach (e :: es) X.env = (false, eval e X.env) :: starEach es X.env := by rfl) (hpl : (backTo pos (starEach es X.env)).any (·.1) = false := by rfl) : QE X E (.Call (.Name x p) (e :: es) [] pos) (mB f ms) :=
  PE.imp (pe_callTy hc hg hm hv ha hn hdb he hpl) fun _ _ _ h => le_B h
end
def bAbs : List D → Store → B := fun ds st => match ds with
  | [.int i] => some (.int (if i < 0 then -i else i), st)
  | _ => none
def bInt : List D → Store → B := fun ds st => match ds with
  | [.int i] => some (.int i, st)
  | [.bl k] => some (.int (if k then 1 else 0), st)
  | _ => none
def bMax2 : List D → Store → B := fun ds st => match ds with
  | [.int i, .int j] => some (.int (if j > i then j else i), st)
  | _ => none
def bMin2 : List D → Store → B := fun ds st => match ds with
  | [.int i, .int j] => some (.int (if j < i then j else i), st)
  | _ => none
section
variable {X : Cx}
theorem cr_abs : CallR X (.builtin "abs") (rOfL X.K bAbs) := by
  intro pins s σ H xs us Q I r h
  obtain ⟨π, st, ds, hr, hv, h⟩ := h
  unfold bAbs at h
  split at h
  · obtain ⟨v, rfl, hi⟩ := hv.inv1
    exact call_abs pins s σ H _ us Q I r ⟨_, by rw [show v = .int _ from hi], FinB.some hr h rfl⟩
  · exact h.elim
theorem cr_int : CallR X (.type "int") (rOfL X.K bInt) := by
  intro pins s σ H xs us Q I r h
  obtain ⟨π, st, ds, hr, hv, h⟩ := h
  unfold bInt at h
  split at h
  · obtain ⟨v, rfl, hi⟩ := hv.inv1
    exact call_int1 pins s σ H _ us Q I r (.inl ⟨_, by rw [show v = .int _ from hi], FinB.some hr h rfl⟩)
  · obtain ⟨v, rfl, hi⟩ := hv.inv1
    exact call_int1 pins s σ H _ us Q I r (.inr ⟨_, by rw [show v = .bl _ from hi], FinB.some hr h rfl⟩)
  · exact h.elim
theorem cr_max2 (hc : X.calm = true) : CallR X (.builtin "max") (rOfL X.K bMax2) := by
  intro pins s σ H xs us Q I r h
  obtain ⟨π, st, ds, hr, hv, h⟩ := h
  unfold bMax2 at h
  split at h
  · obtain ⟨v, w, rfl, hi, hj⟩ := hv.inv2
    exact call_max2 hc pins s σ H _ us Q I r ⟨_, _, by rw [show v = .int _ from hi, show w = .int _ from hj], FinB.some hr h rfl⟩
  · exact h.elim
theorem cr_min2 (hc : X.calm = true) : CallR X (.builtin "min") (rOfL X.K bMin2) := by
  intro pins s σ H xs us Q I r h
  obtain ⟨π, st, ds, hr, hv, h⟩ := h
  unfold bMin2 at h
  split at h
  · obtain ⟨v, w, rfl, hi, hj⟩ := hv.inv2
    exact call_min2 hc pins s σ H _ us Q I r ⟨_, _, by rw [show v = .int _ from hi, show w = .int _ from hj], FinB.some hr h rfl⟩
  · exact h.elim
end

/-! ### sequences: (is it a tuple, its parts) -/
abbrev Sq := Bool × List D
def SeqA (K : PySem.W.Frag) (t : Bool) (H : Hp) (a : Addr) (vs : List V) : Prop := match t with
  | true => SqT K H a vs
  | false => SqL K H a vs
def SeqV (K : PySem.W.Frag) (π : List Addr) (H : Hp) (v : V) (s : Sq) : Prop := ∃ a vs, v = .ref a ∧ SeqA K s.1 H a vs ∧ Rvs K π H s.2 vs
def LQ (K : PySem.W.Frag) (E : XK) (m : Rho → Store → R Sq) : TE := fun σ H Q => ∃ π ρ st, RelEnv K π H ρ σ ∧ RelSt K π H st ∧ FinR K E π H (m ρ st) fun s π' H' _ => ∀ v, SeqV K π' H' v s → Q v H'
abbrev QQ (X : Cx) (E : XK) (e : Expr) (m : Rho → Store → R Sq) : Prop := PE X e (LQ X.K E m)
def mQL (m : Rho → Store → R (List D)) : Rho → Store → R Sq := fun ρ st => (m ρ st).bind fun ds s => .ok (false, ds) s
@[reducible] def seqD (d : D) (st : Store) : R Sq := match d with
  | .tup l => .ok (true, l) st
  | .ktup l => .ok (true, l) st
  | .ref n => (match st[n]? with
    | some (.lst l) => .ok (false, l) st
    | _ => .bad)
  | .scr l => .ok (false, l.map .int) st
  | _ => .bad
def mQE (m : Rho → Store → R D) : Rho → Store → R Sq := fun ρ st => (m ρ st).bind seqD
section
variable {K : PySem.W.Frag} {X : Cx} {E : XK} {e : Expr} {es : List Expr} {π : List Addr} {H : Hp} {st : Store}
theorem qq_l {m : Rho → Store → R (List D)} (h : QL X E e m) : QQ X E e (mQL m) := PE.imp h fun σ H Q h => by
  obtain ⟨π, ρ, st, he, hr, h⟩ := h
  refine ⟨π, ρ, st, he, hr, FinR.mono h.bindE fun ds π1 H1 st1 k1 r1 hf p vs hp np e1 hv => ?_⟩
  exact FinR.ok r1 hf (.ref p) ⟨p, vs, rfl, SqL.of e1, hv⟩
theorem SqF.sq {a : Addr} {vs : List V} (h : SqF K H a vs) : SqL K H a vs := by
  rcases h with ⟨o, h⟩ | h
  · exact .inl (.inr ⟨o, h⟩)
  · exact .inr h
theorem seqD_ok {d : D} {v : V} {kk : Sq → List Addr → Hp → Store → Prop} (hr : RelSt K π H st) (hv : Rv K π H d v) (h : FinR K E π H (seqD d st) kk) : ∃ s, SeqV K π H v s ∧ kk s π H st := by
  unfold seqD at h
  split at h
  · obtain ⟨a, vs, rfl, q, hvs⟩ := hv
    exact ⟨(true, _), ⟨a, vs, rfl, SqT.of q, hvs⟩, FinR.ok hr h⟩
  · obtain ⟨a, vs, rfl, q, hvs⟩ := hv
    exact ⟨(true, _), ⟨a, vs, rfl, .inr q, hvs⟩, FinR.ok hr h⟩
  · split at h
    · rename_i n l e1
      obtain ⟨a, vs, _, rfl, ha, hvs⟩ := Rv.ref_lst hr hv e1
      exact ⟨(false, l), ⟨a, vs, rfl, SqL.of ha, hvs⟩, FinR.ok hr h⟩
    · exact h.elim
  · obtain ⟨a, rfl, q⟩ := hv
    exact ⟨(false, _), ⟨a, _, rfl, q.sq, Rvs.ints⟩, FinR.ok hr h⟩
  · exact h.elim
theorem qq_e {m : Rho → Store → R D} (h : QE X E e m) : QQ X E e (mQE m) := PE.imp h fun σ H Q h => by
  obtain ⟨π, ρ, st, he, hr, h⟩ := h
  refine ⟨π, ρ, st, he, hr, FinR.mono h.bindE fun d π1 H1 st1 k1 r1 hf v hv => ?_⟩
  obtain ⟨s, hs, q⟩ := seqD_ok r1 hv hf
  exact q v hs
/-- a built-in of one sequence: gives a value; gives a new list -/
def rOfQ (K : PySem.W.Frag) (g : Sq → Store → B) : List V → Hp → VK → Prop := fun xs H Q => ∃ π st s v, xs = [v] ∧ RelSt K π H st ∧ SeqV K π H v s ∧ FinB K π H (g s st) Q
def rOfQL (K : PySem.W.Frag) (g : Sq → Option (List D)) : List V → Hp → VK → Prop := fun xs H Q => ∃ π s v ds, xs = [v] ∧ SeqV K π H v s ∧ g s = some ds ∧ ∀ p vs, H p = none → Rvs K π H ds vs → Q (.ref p) (upd H p (.lst vs))
def mCQ (g : Sq → Store → B) (m : Rho → Store → R Sq) : Rho → Store → R D := fun ρ st => (m ρ st).bind fun s s1 => ofB (g s s1)
def mCQL (g : Sq → Option (List D)) (m : Rho → Store → R Sq) : Rho → Store → R (List D) := fun ρ st => (m ρ st).bind fun s s1 => match g s with
  | some ds => .ok ds s1
  | none => .bad
variable {m : Rho → Store → R Sq} {g : Sq → Store → B} {gl : Sq → Option (List D)} {x : Str} {p pos : Pos} {id T : String}
theorem le_CQ {σ : St} {H : Hp} {Q : VK} (h : LE K E (mCQ g m) σ H Q) : tCB (rOfQ K g) (tCons (LQ K E m) tNil) σ H Q := by
  obtain ⟨π, ρ, st, he, hr, h⟩ := h
  exact ⟨π, ρ, st, he, hr, FinR.mono h.bindE fun s π1 H1 st1 k1 r1 hf v hv => ⟨π1, st1, s, v, rfl, r1, hv, finB_of hf⟩⟩
theorem ll_CQL {σ : St} {H : Hp} {Q : VK} (h : LL K E (mCQL gl m) σ H Q) : tCB (rOfQL K gl) (tCons (LQ K E m) tNil) σ H Q := by
  obtain ⟨π, ρ, st, he, hr, h⟩ := h
  refine ⟨π, ρ, st, he, hr, FinR.mono h.bindE fun s π1 H1 st1 k1 r1 hf v hv => ?_⟩
  split at hf
  · rename_i ds eg
    refine ⟨π1, s, v, ds, rfl, hv, eg, fun p vs hp hvs => ?_⟩
    have kn := keep_new (o := .lst vs) r1 hp
    exact hf π1 _ kn (r1.new hp) p vs (k1.fresh hr r1 hp) (r1.none_out hp) upd_same (Rvs.keep r1 kn ds hvs)
  · exact hf.elim
theorem qe_callQ (hc : CallR X (.builtin id) (rOfQ X.K g)) (hm : X.mg x = none) (hv : bootBuiltins x = some (.builtin id)) (ha : QQ X E e m) (hg : Gl X x := by rfl) (hn : x ≠ "__name__" := by decide) (hdb : (x == ("__debug__" : Str)) = false := by decide)
    (he : starEach (e :: []) X.env = (false, eval e X.env) :: starEach [] X.env := by rfl) (hpl : (backTo pos (starEach [] X.env)).any (·.1) = false := by rfl) : QE X E (.Call (.Name x p) [e] [] pos) (mCQ g m) :=
  PE.imp (pe_callB hc hg hm hv (pa_cons ha pa_nil he) hn hdb he hpl) fun _ _ _ h => le_CQ h
theorem qe_callQT (hc : CallR X (.type T) (rOfQ X.K g)) (hm : X.mg x = none) (hv : bootBuiltins x = some (.type T)) (ha : QQ X E e m) (hg : Gl X x := by rfl) (hn : x ≠ "__name__" := by decide) (hdb : (x == ("__debug__" : Str)) = false := by decide)
    (he : starEach (e :: []) X.env = (false, eval e X.env) :: starEach [] X.env := by rfl) (hpl : (backTo pos (starEach [] X.env)).any (·.1) = false := by rfl) : QE X E (.Call (.Name x p) [e] [] pos) (mCQ g m) :=
  PE.imp (pe_callTy hc hg hm hv (pa_cons ha pa_nil he) hn hdb he hpl) fun _ _ _ h => le_CQ h
theorem ql_callQ (hc : CallR X (.builtin id) (rOfQL X.K gl)) (hm : X.mg x = none) (hv : bootBuiltins x = some (.builtin id)) (ha : QQ X E e m) (hg : Gl X x := by rfl) (hn : x ≠ "__name__" := by decide) (hdb : (x == ("__debug__" : Str)) = false := by decide)
    (he : starEach (e :: []) X.env = (false, eval e X.env) :: starEach [] X.env := by rfl) (hpl : (backTo pos (starEach [] X.env)).any (·.1) = false := by rfl) : QL X E (.Call (.Name x p) [e] [] pos) (mCQL gl m) :=
  PE.imp (pe_callB hc hg hm hv (pa_cons ha pa_nil he) hn hdb he hpl) fun _ _ _ h => ll_CQL h
theorem ql_callQT (hc : CallR X (.type T) (rOfQL X.K gl)) (hm : X.mg x = none) (hv : bootBuiltins x = some (.type T)) (ha : QQ X E e m) (hg : Gl X x := by rfl) (hn : x ≠ "__name__" := by decide) (hdb : (x == ("__debug__" : Str)) = false := by decide)
    (he : starEach (e :: []) X.env = (false, eval e X.env) :: starEach [] X.env := by rfl) (hpl : (backTo pos (starEach [] X.env)).any (·.1) = false := by rfl) : QL X E (.Call (.Name x p) [e] [] pos) (mCQL gl m) :=
  PE.imp (pe_callTy hc hg hm hv (pa_cons ha pa_nil he) hn hdb he hpl) fun _ _ _ h => ll_CQL h
end
/-! #### sum, max, min, all, any, tuple, list, len -/
def intsD : List D → Option (List Int)
  | [] => some []
  | .int i :: r => (intsD r).map (i :: ·)
  | _ :: _ => none
def blsD : List D → Option (List Bool)
  | [] => some []
  | .bl b :: r => (blsD r).map (b :: ·)
  | _ :: _ => none
def strsD : List D → Option (List Str)
  | [] => some []
  | .str x :: r => (strsD r).map (x :: ·)
  | _ :: _ => none
section
variable {K : PySem.W.Frag} {π : List Addr} {H : Hp}
theorem intsD_ok : ∀ {ds : List D} {ns : List Int} {vs : List V}, intsD ds = some ns → Rvs K π H ds vs → vs = ns.map V.int
  | [], ns, vs, e, h => by cases e; exact h
  | d :: r, ns, vs, e, h => by
    obtain ⟨v, q, rfl, h1, h2⟩ := h
    cases d with
    | int i =>
      have e' : (intsD r).map (i :: ·) = some ns := e
      cases z : intsD r with
      | none => rw [z] at e'; cases e'
      | some ms =>
        rw [z] at e'
        cases e'
        rw [show v = .int i from h1, intsD_ok z h2]; rfl
    | _ => cases e
theorem blsD_ok : ∀ {ds : List D} {ns : List Bool} {vs : List V}, blsD ds = some ns → Rvs K π H ds vs → vs = ns.map V.bl
  | [], ns, vs, e, h => by cases e; exact h
  | d :: r, ns, vs, e, h => by
    obtain ⟨v, q, rfl, h1, h2⟩ := h
    cases d with
    | bl i =>
      have e' : (blsD r).map (i :: ·) = some ns := e
      cases z : blsD r with
      | none => rw [z] at e'; cases e'
      | some ms =>
        rw [z] at e'
        cases e'
        rw [show v = .bl i from h1, blsD_ok z h2]; rfl
    | _ => cases e
theorem strsD_ok : ∀ {ds : List D} {ns : List Str} {vs : List V}, strsD ds = some ns → Rvs K π H ds vs → vs = ns.map V.str
  | [], ns, vs, e, h => by cases e; exact h
  | d :: r, ns, vs, e, h => by
    obtain ⟨v, q, rfl, h1, h2⟩ := h
    cases d with
    | str i =>
      have e' : (strsD r).map (i :: ·) = some ns := e
      cases z : strsD r with
      | none => rw [z] at e'; cases e'
      | some ms =>
        rw [z] at e'
        cases e'
        rw [show v = .str i from h1, strsD_ok z h2]; rfl
    | _ => cases e
end
@[simp] theorem intsD_map (ns : List Int) : intsD (ns.map D.int) = some ns := by
  induction ns with
  | nil => rfl
  | cons n r ih => show (intsD (r.map D.int)).map (n :: ·) = _; rw [ih]; rfl
@[simp] theorem blsD_map (ns : List Bool) : blsD (ns.map D.bl) = some ns := by
  induction ns with
  | nil => rfl
  | cons n r ih => show (blsD (r.map D.bl)).map (n :: ·) = _; rw [ih]; rfl
@[simp] theorem strsD_map (ns : List Str) : strsD (ns.map D.str) = some ns := by
  induction ns with
  | nil => rfl
  | cons n r ih => show (strsD (r.map D.str)).map (n :: ·) = _; rw [ih]; rfl
/-- the greatest, the least of the ints -/
def maxI : List Int → Option Int
  | [] => none
  | n :: r => some (r.foldl (fun a b => if b > a then b else a) n)
def minI : List Int → Option Int
  | [] => none
  | n :: r => some (r.foldl (fun a b => if b < a then b else a) n)
theorem maxI_fold : ∀ (r : List Int) (n : Int), (n ≤ r.foldl (fun a b => if b > a then b else a) n) ∧ (∀ y ∈ r, y ≤ r.foldl (fun a b => if b > a then b else a) n) ∧ (r.foldl (fun a b => if b > a then b else a) n = n ∨ r.foldl (fun a b => if b > a then b else a) n ∈ r)
  | [], n => ⟨Int.le_refl _, fun y h => by simp at h, .inl rfl⟩
  | b :: r, n => by
    obtain ⟨h1, h2, h3⟩ := maxI_fold r (if b > n then b else n)
    refine ⟨?_, ?_, ?_⟩
    · show n ≤ r.foldl _ (if b > n then b else n)
      have : n ≤ (if b > n then b else n) := by split <;> omega
      omega
    · intro y hy
      show y ≤ r.foldl _ (if b > n then b else n)
      rcases List.mem_cons.mp hy with rfl | hy
      · have : y ≤ (if y > n then y else n) := by split <;> omega
        omega
      · exact h2 y hy
    · show r.foldl _ (if b > n then b else n) = n ∨ _
      rcases h3 with h3 | h3
      · rw [List.foldl_cons, h3]
        split
        · exact .inr (List.mem_cons_self ..)
        · exact .inl rfl
      · exact .inr (List.mem_cons_of_mem _ h3)
theorem minI_fold : ∀ (r : List Int) (n : Int), (r.foldl (fun a b => if b < a then b else a) n ≤ n) ∧ (∀ y ∈ r, r.foldl (fun a b => if b < a then b else a) n ≤ y) ∧ (r.foldl (fun a b => if b < a then b else a) n = n ∨ r.foldl (fun a b => if b < a then b else a) n ∈ r)
  | [], n => ⟨Int.le_refl _, fun y h => by simp at h, .inl rfl⟩
  | b :: r, n => by
    obtain ⟨h1, h2, h3⟩ := minI_fold r (if b < n then b else n)
    refine ⟨?_, ?_, ?_⟩
    · show r.foldl _ (if b < n then b else n) ≤ n
      have : (if b < n then b else n) ≤ n := by split <;> omega
      omega
    · intro y hy
      show r.foldl _ (if b < n then b else n) ≤ y
      rcases List.mem_cons.mp hy with rfl | hy
      · have : (if y < n then y else n) ≤ y := by split <;> omega
        omega
      · exact h2 y hy
    · show r.foldl _ (if b < n then b else n) = n ∨ _
      rcases h3 with h3 | h3
      · rw [List.foldl_cons, h3]
        split
        · exact .inr (List.mem_cons_self ..)
        · exact .inl rfl
      · exact .inr (List.mem_cons_of_mem _ h3)
theorem maxI_le {ns : List Int} {m : Int} (h : maxI ns = some m) : m ∈ ns ∧ ∀ y ∈ ns, y ≤ m := by
  cases ns with
  | nil => cases h
  | cons n r =>
    have e : r.foldl (fun a b => if b > a then b else a) n = m := Option.some.inj h
    obtain ⟨h1, h2, h3⟩ := maxI_fold r n
    rw [e] at h1 h2 h3
    refine ⟨?_, fun y hy => ?_⟩
    · rcases h3 with h3 | h3
      · rw [h3]; exact List.mem_cons_self ..
      · exact List.mem_cons_of_mem _ h3
    · rcases List.mem_cons.mp hy with rfl | hy
      · exact h1
      · exact h2 y hy
theorem minI_le {ns : List Int} {m : Int} (h : minI ns = some m) : m ∈ ns ∧ ∀ y ∈ ns, m ≤ y := by
  cases ns with
  | nil => cases h
  | cons n r =>
    have e : r.foldl (fun a b => if b < a then b else a) n = m := Option.some.inj h
    obtain ⟨h1, h2, h3⟩ := minI_fold r n
    rw [e] at h1 h2 h3
    refine ⟨?_, fun y hy => ?_⟩
    · rcases h3 with h3 | h3
      · rw [h3]; exact List.mem_cons_self ..
      · exact List.mem_cons_of_mem _ h3
    · rcases List.mem_cons.mp hy with rfl | hy
      · exact h1
      · exact h2 y hy
def gSum : Sq → Store → B := fun s st => match s with
  | (false, l) => (intsD l).map fun ns => (.int ns.sum, st)
  | _ => none
def gMax : Sq → Store → B := fun s st => match s with
  | (false, l) => ((intsD l).bind maxI).map fun m => (.int m, st)
  | _ => none
def gMin : Sq → Store → B := fun s st => match s with
  | (false, l) => ((intsD l).bind minI).map fun m => (.int m, st)
  | _ => none
def gAll : Sq → Store → B := fun s st => match s with
  | (false, l) => (blsD l).map fun bs => (.bl (bs.all id), st)
  | _ => none
def gAny : Sq → Store → B := fun s st => match s with
  | (false, l) => (blsD l).map fun bs => (.bl (bs.any id), st)
  | _ => none
def gTup : Sq → Store → B := fun s st => match s with
  | (false, l) => some (.tup l, st)
  | _ => none
def gLen : Sq → Store → B := fun s st => some (.int s.2.length, st)
def gList : Sq → Option (List D) := fun s => some s.2
section
variable {X : Cx}
theorem cq_sum (hc : X.calm = true) : CallR X (.builtin "sum") (rOfQ X.K gSum) := by
  intro pins s σ H xs us Q I r h
  obtain ⟨π, st, ⟨t, l⟩, v, rfl, hr, ⟨a, vs, rfl, hs, hv⟩, h⟩ := h
  cases t with
  | true => exact h.elim
  | false =>
    have h' : FinB X.K π H ((intsD l).map fun ns => (D.int ns.sum, st)) Q := h
    cases z : intsD l with
    | none => rw [z] at h'; exact h'.elim
    | some ns =>
      rw [z] at h'
      exact L2.cr_sum hc pins s σ H _ us Q I r ⟨a, ns, rfl, by rw [← intsD_ok z hv]; exact hs, FinB.some hr h' rfl⟩
theorem cq_max (hc : X.calm = true) : CallR X (.builtin "max") (rOfQ X.K gMax) := by
  intro pins s σ H xs us Q I r h
  obtain ⟨π, st, ⟨t, l⟩, v, rfl, hr, ⟨a, vs, rfl, hs, hv⟩, h⟩ := h
  cases t with
  | true => exact h.elim
  | false =>
    have h' : FinB X.K π H (((intsD l).bind maxI).map fun m => (D.int m, st)) Q := h
    cases z : intsD l with
    | none => rw [z] at h'; exact h'.elim
    | some ns =>
      rw [z] at h'
      have h'' : FinB X.K π H ((maxI ns).map fun m => (D.int m, st)) Q := h'
      cases y : maxI ns with
      | none => rw [y] at h''; exact h''.elim
      | some m =>
        rw [y] at h''
        obtain ⟨m1, m2⟩ := maxI_le y
        refine L2.cr_max hc pins s σ H _ us Q I r ⟨a, ns, rfl, by rw [← intsD_ok z hv]; exact hs, List.length_pos_of_mem m1, fun n n1 n2 => ?_⟩
        have : n = m := Int.le_antisymm (m2 n n1) (n2 m m1)
        rw [this]
        exact FinB.some hr h'' rfl
theorem cq_min (hc : X.calm = true) : CallR X (.builtin "min") (rOfQ X.K gMin) := by
  intro pins s σ H xs us Q I r h
  obtain ⟨π, st, ⟨t, l⟩, v, rfl, hr, ⟨a, vs, rfl, hs, hv⟩, h⟩ := h
  cases t with
  | true => exact h.elim
  | false =>
    have h' : FinB X.K π H (((intsD l).bind minI).map fun m => (D.int m, st)) Q := h
    cases z : intsD l with
    | none => rw [z] at h'; exact h'.elim
    | some ns =>
      rw [z] at h'
      have h'' : FinB X.K π H ((minI ns).map fun m => (D.int m, st)) Q := h'
      cases y : minI ns with
      | none => rw [y] at h''; exact h''.elim
      | some m =>
        rw [y] at h''
        obtain ⟨m1, m2⟩ := minI_le y
        refine L2.cr_min hc pins s σ H _ us Q I r ⟨a, ns, rfl, by rw [← intsD_ok z hv]; exact hs, List.length_pos_of_mem m1, fun n n1 n2 => ?_⟩
        have : n = m := Int.le_antisymm (n2 m m1) (m2 n n1)
        rw [this]
        exact FinB.some hr h'' rfl
theorem cq_all (hc : X.calm = true) : CallR X (.builtin "all") (rOfQ X.K gAll) := by
  intro pins s σ H xs us Q I r h
  obtain ⟨π, st, ⟨t, l⟩, v, rfl, hr, ⟨a, vs, rfl, hs, hv⟩, h⟩ := h
  cases t with
  | true => exact h.elim
  | false =>
    have h' : FinB X.K π H ((blsD l).map fun ns => (D.bl (ns.all id), st)) Q := h
    cases z : blsD l with
    | none => rw [z] at h'; exact h'.elim
    | some ns =>
      rw [z] at h'
      exact L2.cr_all hc pins s σ H _ us Q I r ⟨a, ns, rfl, by rw [← blsD_ok z hv]; exact hs, FinB.some hr h' rfl⟩
theorem cq_any (hc : X.calm = true) : CallR X (.builtin "any") (rOfQ X.K gAny) := by
  intro pins s σ H xs us Q I r h
  obtain ⟨π, st, ⟨t, l⟩, v, rfl, hr, ⟨a, vs, rfl, hs, hv⟩, h⟩ := h
  cases t with
  | true => exact h.elim
  | false =>
    have h' : FinB X.K π H ((blsD l).map fun ns => (D.bl (ns.any id), st)) Q := h
    cases z : blsD l with
    | none => rw [z] at h'; exact h'.elim
    | some ns =>
      rw [z] at h'
      exact L2.cr_any hc pins s σ H _ us Q I r ⟨a, ns, rfl, by rw [← blsD_ok z hv]; exact hs, FinB.some hr h' rfl⟩
theorem cq_tup : CallR X (.type "tuple") (rOfQ X.K gTup) := by
  intro pins s σ H xs us Q I r h
  obtain ⟨π, st, ⟨t, l⟩, v, rfl, hr, ⟨a, vs, rfl, hs, hv⟩, h⟩ := h
  cases t with
  | true => exact h.elim
  | false => exact call_tuple_of pins s σ H _ us Q I r ⟨a, vs, rfl, .inl ⟨hs, fun p hp => by
      have kn := keep_new (o := .tup vs) hr hp
      exact h π _ kn (hr.new hp) (.ref p) ⟨p, vs, rfl, upd_same, Rvs.keep hr kn l hv⟩⟩⟩
theorem cq_len : CallR X (.builtin "len") (rOfQ X.K gLen) := by
  intro pins s σ H xs us Q I r h
  obtain ⟨π, st, ⟨t, l⟩, v, rfl, hr, ⟨a, vs, rfl, hs, hv⟩, h⟩ := h
  have e := hv.length
  have q : Q (.int vs.length) H := by
    have z := FinB.some hr h (v := .int l.length) rfl
    rw [show l.length = vs.length from e] at z
    exact z
  cases t with
  | true => exact call_len_seq pins s σ H _ us Q I r ⟨a, vs, rfl, .inr hs, q⟩
  | false => exact call_len_seq pins s σ H _ us Q I r ⟨a, vs, rfl, .inl hs, q⟩
theorem cq_list : CallR X (.type "list") (fun xs H Q => ∃ π st s v, xs = [v] ∧ RelSt X.K π H st ∧ SeqV X.K π H v s ∧ ∀ p vs, H p = none → Rvs X.K π H s.2 vs → Q (.ref p) (upd H p (.lst vs))) := by
  intro pins s σ H xs us Q I r h
  obtain ⟨π, st, ⟨t, l⟩, v, rfl, hr, ⟨a, vs, rfl, hs, hv⟩, h⟩ := h
  cases t with
  | true => exact call_list_of pins s σ H _ us Q I r ⟨a, vs, rfl, .inr hs, fun p hp => h p vs hp hv⟩
  | false => exact call_list_of pins s σ H _ us Q I r ⟨a, vs, rfl, .inl hs, fun p hp => h p vs hp hv⟩
theorem cq_listL : CallR X (.type "list") (rOfQL X.K gList) := by
  intro pins s σ H xs us Q I r h
  obtain ⟨π, ⟨t, l⟩, v, ds, rfl, ⟨a, vs, rfl, hs, hv⟩, e, h⟩ := h
  cases e
  cases t with
  | true => exact call_list_of pins s σ H _ us Q I r ⟨a, vs, rfl, .inr hs, fun p hp => h p vs hp hv⟩
  | false => exact call_list_of pins s σ H _ us Q I r ⟨a, vs, rfl, .inl hs, fun p hp => h p vs hp hv⟩
end
end RQ

/-! S4: +, *, slices, data, ==, in, methods of lists. -/
namespace RQ
open PySem L2

/-! ### a + b -/
def bAdd : D → D → Store → B := fun a b st => match a, b with
  | .int i, .int j => some (.int (i + j), st)
  | .str x, .str y => if small (x.length + y.length) then some (.str (x ++ y), st) else none
  | .tup l, .tup m => if small (l.length + m.length) then some (.tup (l ++ m), st) else none
  | .ref i, .ref j => (match st[i]?, st[j]? with
    | some (.lst l), some (.lst m) => if small (l.length + m.length) then some (.ref st.length, st ++ [.lst (l ++ m)]) else none
    | _, _ => none)
  | _, _ => none
section
variable {X : Cx} {E : XK}
theorem os_add : OpS X (binaryOp .Add) bAdd := by
  intro pins s σ H x y v u Q I rx ry h
  obtain ⟨π, st, a, b, hr, ha, hb, h⟩ := h
  unfold bAdd at h
  split at h
  · exact op_add pins s σ H x y v u Q I rx ry ⟨_, _, ha, hb, FinB.some hr h rfl⟩
  · split at h
    · rename_i z
      exact op_add_str pins s σ H x y v u Q I rx ry ⟨_, _, ha, hb, small_ok z, FinB.some hr h rfl⟩
    · exact h.elim
  · split at h
    · rename_i l m z
      obtain ⟨p, vs, rfl, hp, hvs⟩ := ha
      obtain ⟨q, ws, rfl, hq, hws⟩ := hb
      have e1 := hvs.length
      have e2 := hws.length
      have nl : vs = [] → l = [] := fun e => by rw [e] at e1; exact List.length_eq_zero_iff.mp e1
      have nm : ws = [] → m = [] := fun e => by rw [e] at e2; exact List.length_eq_zero_iff.mp e2
      refine op_catA pins s σ H _ _ v u Q I rx ry ⟨p, q, vs, ws, rfl, rfl, SqT.of hp, SqT.of hq, by rw [← e1, ← e2]; exact small_ok z, fun e => ?_, fun _ e => ?_, fun _ _ t ht => ?_⟩
      · refine FinB.some hr h ⟨q, ws, rfl, hq, ?_⟩
        rw [nl e]; exact hws
      · refine FinB.some hr h ⟨p, vs, rfl, hp, ?_⟩
        rw [nm e, List.append_nil]; exact hvs
      · have kn := keep_new (o := .tup (vs ++ ws)) hr ht
        exact h π _ kn (hr.new ht) (.ref t) ⟨t, _, rfl, upd_same, (Rvs.keep hr kn l hvs).append (Rvs.keep hr kn m hws)⟩
    · exact h.elim
  · split at h
    · rename_i i j l m e1 e2
      split at h
      · rename_i z
        obtain ⟨p, vs, hp, rfl, h1, hvs⟩ := Rv.ref_lst hr ha e1
        obtain ⟨q, ws, hq, rfl, h2, hws⟩ := Rv.ref_lst hr hb e2
        refine op_cat pins s σ H _ _ v u Q I rx ry ⟨p, q, vs, ws, rfl, rfl, h1, h2, by rw [← hvs.length, ← hws.length]; exact small_ok z, fun t ht => ?_⟩
        have kn := keep_alloc (o := .lst (vs ++ ws)) hr ht
        exact h _ _ kn (hr.alloc ht (c := .lst (l ++ m)) ⟨_, rfl, (Rvs.keep hr kn l hvs).append (Rvs.keep hr kn m hws)⟩) (.ref t) ⟨t, by rw [hr.len]; simp, rfl⟩
      · exact h.elim
    · exact h.elim
  · exact h.elim
/-! ### a * b -/
def bMul : D → D → Store → B := fun a b st => match a, b with
  | .int i, .int j => if fits64 i || fits64 j then some (.int (i * j), st) else none
  | .tup l, .int k => if decide (l ≠ [] ∧ 2 ≤ k ∧ k ≤ 1000 ∧ l.length ≤ 1000) then some (.tup (List.replicate k.toNat l).flatten, st) else none
  | .ref i, .int k => (match st[i]? with
    | some (.lst l) => if decide (k < 1000000) && small (l.length * k.toNat) && decide (-1000000 < k) then some (.ref st.length, st ++ [.lst (List.replicate k.toNat l).flatten]) else none
    | _ => none)
  | _, _ => none
theorem Rvs.rep {K : PySem.W.Frag} {π : List Addr} {H : Hp} {l : List D} {vs : List V} (h : Rvs K π H l vs) : ∀ n, Rvs K π H (List.replicate n l).flatten (List.replicate n vs).flatten
  | 0 => rfl
  | n + 1 => by
    rw [List.replicate_succ, List.replicate_succ, List.flatten_cons, List.flatten_cons]
    exact h.append (Rvs.rep h n)
theorem os_mul : OpS X (binaryOp .Mult) bMul := by
  intro pins s σ H x y v u Q I rx ry h
  obtain ⟨π, st, a, b, hr, ha, hb, h⟩ := h
  unfold bMul at h
  split at h
  · split at h
    · rename_i z
      refine op_mul pins s σ H x y v u Q I rx ry ⟨_, _, ha, hb, ?_, FinB.some hr h rfl⟩
      rcases Bool.or_eq_true_iff.mp z with z | z
      · exact .inl (of_decide_eq_true z)
      · exact .inr (of_decide_eq_true z)
    · exact h.elim
  · split at h
    · rename_i l k z
      obtain ⟨z1, z2, z3, z4⟩ := of_decide_eq_true z
      obtain ⟨p, vs, rfl, hp, hvs⟩ := ha
      have e1 := hvs.length
      refine op_repT pins s σ H _ _ v u Q I rx ry ⟨p, k, vs, rfl, hb, SqT.of hp, fun e => z1 (by rw [e] at e1; exact List.length_eq_zero_iff.mp e1), z2, z3, by rw [← e1]; exact z4, fun t ht => ?_⟩
      have kn := keep_new (o := .tup (List.replicate k.toNat vs).flatten) hr ht
      exact h π _ kn (hr.new ht) (.ref t) ⟨t, _, rfl, upd_same, (Rvs.keep hr kn l hvs).rep _⟩
    · exact h.elim
  · split at h
    · rename_i i k _ l e1
      split at h
      · rename_i z
        obtain ⟨z12, z3⟩ := Bool.and_eq_true_iff.mp z
        obtain ⟨z1, z2⟩ := Bool.and_eq_true_iff.mp z12
        have z1' := of_decide_eq_true z1
        have z3' := of_decide_eq_true z3
        obtain ⟨p, vs, hp, rfl, h1, hvs⟩ := Rv.ref_lst hr ha e1
        refine op_rep pins s σ H _ _ v u Q I rx ry ⟨p, k, vs, rfl, hb, h1, by omega, by omega, by rw [← hvs.length]; exact small_ok z2, fun t ht => ?_⟩
        have kn := keep_alloc (o := .lst (List.replicate k.toNat vs).flatten) hr ht
        exact h _ _ kn (hr.alloc ht (c := .lst (List.replicate k.toNat l).flatten) ⟨_, rfl, (Rvs.keep hr kn l hvs).rep _⟩) (.ref t) ⟨t, by rw [hr.len]; simp, rfl⟩
      · exact h.elim
    · exact h.elim
  · exact h.elim
end

/-! ### slices -/
def cutD {α : Type} (l : List α) (lo hi : Option Int) : List α := (l.drop (HT.sIx l.length 0 lo)).take (HT.sIx l.length l.length hi - HT.sIx l.length 0 lo)
theorem Rvs.cut {K : PySem.W.Frag} {π : List Addr} {H : Hp} {l : List D} {vs : List V} (h : Rvs K π H l vs) (lo hi : Option Int) : Rvs K π H (cutD l lo hi) (cutV vs lo hi) := by
  unfold cutD cutV
  rw [h.length]
  exact (h.drop _).take _
/-- a part of a slice -/
def mPart (m : Rho → Store → R D) : Rho → Store → R (Option Int) := fun ρ st => (m ρ st).bind fun d s => match d with
  | .int i => .ok (some i) s
  | _ => .bad
def mNoPart : Rho → Store → R (Option Int) := fun _ st => .ok none st
def LO (K : PySem.W.Frag) (E : XK) (m : Rho → Store → R (Option Int)) : TO := fun σ H Q => ∃ π ρ st, RelEnv K π H ρ σ ∧ RelSt K π H st ∧ FinR K E π H (m ρ st) fun o _ H' _ => Q o H'
abbrev QO (X : Cx) (E : XK) (e : Option Expr) (m : Rho → Store → R (Option Int)) : Prop := PO X e (LO X.K E m)
theorem PO.imp {X : Cx} {e : Option Expr} {t t' : TO} (h : PO X e t) (hi : ∀ σ H Q, t' σ H Q → t σ H Q) : PO X e t' := ⟨fun pins s σ H Q I q => h.run pins s σ H Q I (hi _ _ _ q)⟩
/-- a slice of a tuple, a text -/
def bSl : D → Option Int → Option Int → Store → B := fun d lo hi st => match d with
  | .tup l => some (.tup (cutD l lo hi), st)
  | .str x => if small x.length then some (.str (cutS x lo hi), st) else none
  | .ref n => (match st[n]? with
    | some (.lst l) => some (.ref st.length, st ++ [.lst (cutD l lo hi)])
    | _ => none)
  | .scr l => some (.ref st.length, st ++ [.lst ((cutD l lo hi).map .int)])
  | _ => none
def mSl (m : Rho → Store → R D) (ml mh : Rho → Store → R (Option Int)) : Rho → Store → R D := fun ρ st => (m ρ st).bind fun d s1 => (ml ρ s1).bind fun lo s2 => (mh ρ s2).bind fun hi s3 => ofB (bSl d lo hi s3)
section
variable {X : Cx} {E : XK} {e : Expr} {lo hi : Option Expr} {m : Rho → Store → R D} {ml mh : Rho → Store → R (Option Int)} {p2 pos : Pos}
theorem qo_some {e : Expr} (h : QE X E e m) : QO X E (some e) (mPart m) := PO.imp (po_some h) fun σ H Q h => by
  obtain ⟨π, ρ, st, he, hr, h⟩ := h
  refine ⟨π, ρ, st, he, hr, FinR.mono h.bindE fun d π1 H1 st1 k1 r1 hf v hv => ?_⟩
  cases d with
  | int i => exact ⟨i, hv, FinR.ok r1 hf⟩
  | _ => exact hf.elim
theorem qo_none : QO X E none mNoPart := PO.imp po_none fun σ H Q h => by
  obtain ⟨π, ρ, st, he, hr, h⟩ := h
  exact FinR.ok hr h
def rSlD (K : PySem.W.Frag) : V → Option Int → Option Int → Hp → VK → Prop := fun x lo hi H Q => ∃ π st d, RelSt K π H st ∧ Rv K π H d x ∧ FinB K π H (bSl d lo hi st) Q
theorem sl_D : SlR X (rSlD X.K) := by
  intro pins s σ H x v vl vu lo hi sl Q I rx hs pl pu h
  obtain ⟨π, st, d, hr, hd, h⟩ := h
  unfold bSl at h
  split at h
  · rename_i l
    obtain ⟨a, vs, rfl, hq, hvs⟩ := hd
    refine sl_tupA pins s σ H _ v vl vu lo hi sl Q I rx hs pl pu ⟨a, vs, rfl, SqT.of hq, fun ⟨w1, w2⟩ => ?_, fun _ p hp => ?_⟩
    · refine FinB.some hr h ⟨a, vs, rfl, hq, ?_⟩
      have z : cutD l lo hi = l := by
        unfold cutD
        rw [hvs.length, w1, w2]
        rw [List.drop_zero, Nat.sub_zero, ← hvs.length, List.take_length]
      rw [z]; exact hvs
    · have kn := keep_new (o := .tup (cutV vs lo hi)) hr hp
      exact h π _ kn (hr.new hp) (.ref p) ⟨p, _, rfl, upd_same, (Rvs.keep hr kn l hvs).cut lo hi⟩
  · split at h
    · rename_i z
      exact sl_str pins s σ H _ v vl vu lo hi sl Q I rx hs pl pu ⟨_, hd, small_ok z, FinB.some hr h rfl⟩
    · exact h.elim
  · split at h
    · rename_i n l e1
      obtain ⟨a, vs, _, rfl, ha, hvs⟩ := Rv.ref_lst hr hd e1
      refine sl_list pins s σ H _ v vl vu lo hi sl Q I rx hs pl pu ⟨a, vs, rfl, SqL.of ha, fun p hp => ?_⟩
      have kn := keep_alloc (o := .lst (cutV vs lo hi)) hr hp
      exact h _ _ kn (hr.alloc hp (c := .lst (cutD l lo hi)) ⟨_, rfl, (Rvs.keep hr kn l hvs).cut lo hi⟩) (.ref p) ⟨p, by rw [hr.len]; simp, rfl⟩
    · exact h.elim
  · rename_i l
    obtain ⟨a, rfl, hq⟩ := hd
    refine sl_list pins s σ H _ v vl vu lo hi sl Q I rx hs pl pu ⟨a, _, rfl, hq.sq, fun p hp => ?_⟩
    have kn := keep_alloc (o := .lst (cutV (l.map V.int) lo hi)) hr hp
    refine h _ _ kn (hr.alloc hp (c := .lst ((cutD l lo hi).map .int)) ⟨_, rfl, ?_⟩) (.ref p) ⟨p, by rw [hr.len]; simp, rfl⟩
    have z : (cutD l lo hi).map D.int = cutD (l.map D.int) lo hi := by unfold cutD; simp [List.map_take, List.map_drop]
    rw [z]
    exact (Rvs.ints (ns := l)).cut lo hi
  · exact h.elim
theorem qe_slice (he : QE X E e m) (hl : QO X E lo ml) (hh : QO X E hi mh) : QE X E (.Subscript e (.Slice lo hi none p2) pos) (mSl m ml mh) := PE.imp (pe_slice sl_D he hl hh) fun σ H Q h => by
  obtain ⟨π, ρ, st, he, hr, h⟩ := h
  refine ⟨π, ρ, st, he, hr, FinR.mono h.bindE fun d π1 H1 st1 k1 r1 hf v hv => ?_⟩
  have he1 := RelEnv.keep hr k1 he
  refine ⟨π1, ρ, st1, he1, r1, FinR.mono hf.bindE fun lo' π2 H2 st2 k2 r2 hf2 => ?_⟩
  refine ⟨π2, ρ, st2, RelEnv.keep r1 k2 he1, r2, FinR.mono hf2.bindE fun hi' π3 H3 st3 k3 r3 hf3 => ?_⟩
  exact ⟨π3, st3, d, r3, Rv.keep r2 k3 d (Rv.keep r1 k2 d hv), finB_of hf3⟩
end

/-! ### data: what can be compared -/
def mapO {α β : Type} (f : α → Option β) : List α → Option (List β)
  | [] => some []
  | a :: r => match f a, mapO f r with
    | some b, some bs => some (b :: bs)
    | _, _ => none
theorem mapO_all {α β : Type} {f : α → Option β} {g : α → β} : ∀ {l : List α}, (∀ a ∈ l, f a = some (g a)) → mapO f l = some (l.map g)
  | [], _ => rfl
  | a :: r, h => by
    unfold mapO
    rw [h a (List.mem_cons_self ..), mapO_all fun b hb => h b (List.mem_cons_of_mem _ hb)]
    rfl
def dP (st : Store) : Nat → D → Option PyData
  | 0, _ => none
  | n + 1, d => match d with
    | .non => some .none
    | .bl b => some (.bool b)
    | .int i => some (.int i)
    | .str x => some (.str x)
    | .tup l => (mapO (dP st n) l).map .tuple
    | .ktup l => (mapO (dP st n) l).map .tuple
    | .ref i => (match st[i]? with
      | some (.lst l) => (mapO (dP st n) l).map .list
      | _ => none)
    | .scr l => some (.list (l.map .int))
    | .exc _ _ => none
section
variable {K : PySem.W.Frag} {π : List Addr} {H : Hp} {st : Store}
theorem dP_all {n : Nat} (ih : ∀ (d : D) (p : PyData) (v : V), dP st n d = some p → Rv K π H d v → Dp K H v p) :
    ∀ (l : List D) (ps : List PyData) (vs : List V), mapO (dP st n) l = some ps → Rvs K π H l vs → DpAll K H vs ps
  | [], ps, vs, e, h => by
    cases e
    rw [show vs = [] from h]
    exact .nil
  | d :: r, ps, vs, e, h => by
    obtain ⟨v, q, rfl, h1, h2⟩ := h
    unfold mapO at e
    split at e
    · rename_i b bs e1 e2
      cases e
      exact .cons (ih d b v e1 h1) (dP_all ih r bs q e2 h2)
    · cases e
theorem DpAll.ints : ∀ (l : List Int), DpAll K H (l.map V.int) (l.map PyData.int)
  | [] => .nil
  | i :: r => .cons (.int i) (DpAll.ints r)
theorem dP_ok (hr : RelSt K π H st) : ∀ (n : Nat) (d : D) (p : PyData) (v : V), dP st n d = some p → Rv K π H d v → Dp K H v p
  | 0, _, _, _, e, _ => by cases e
  | n + 1, d, p, v, e, h => by
    cases d with
    | non => cases e; rw [show v = .non from h]; exact .non
    | bl b => cases e; rw [show v = .bl b from h]; exact .bl b
    | int i => cases e; rw [show v = .int i from h]; exact .int i
    | str x => cases e; rw [show v = .str x from h]; exact .str x
    | tup l =>
      obtain ⟨a, vs, rfl, hq, hvs⟩ := h
      have e' : (mapO (dP st n) l).map PyData.tuple = some p := e
      cases z : mapO (dP st n) l with
      | none => rw [z] at e'; cases e'
      | some ps =>
        rw [z] at e'
        cases e'
        exact .tup (SqT.of hq) (dP_all (dP_ok hr n) l ps vs z hvs)
    | ktup l =>
      obtain ⟨a, vs, rfl, hq, hvs⟩ := h
      have e' : (mapO (dP st n) l).map PyData.tuple = some p := e
      cases z : mapO (dP st n) l with
      | none => rw [z] at e'; cases e'
      | some ps =>
        rw [z] at e'
        cases e'
        exact .tup (.inr hq) (dP_all (dP_ok hr n) l ps vs z hvs)
    | ref i =>
      have e' : (match st[i]? with
        | some (.lst l) => (mapO (dP st n) l).map PyData.list
        | _ => none) = some p := e
      split at e'
      · rename_i l e1
        obtain ⟨a, vs, _, rfl, ha, hvs⟩ := Rv.ref_lst hr h e1
        cases z : mapO (dP st n) l with
        | none => rw [z] at e'; cases e'
        | some ps =>
          rw [z] at e'
          cases e'
          exact .lst (SqL.of ha) (dP_all (dP_ok hr n) l ps vs z hvs)
      · cases e'
    | scr l =>
      cases e
      obtain ⟨a, rfl, hq⟩ := h
      exact .lst hq.sq (DpAll.ints l)
    | exc c d => cases e
end
/-- the depth that is looked at -/
abbrev dpth : Nat := 12
def sh (p : PyData) : Bool := SeqAt.shaped p
def deqP (st : Store) (a b : D) : Option Bool := match dP st dpth a, dP st dpth b with
  | some p, some q => if sh p && sh q then some (PyData.eqv p q) else none
  | _, _ => none
def deq (st : Store) (a b : D) : Option Bool := match a, b with
  | .int i, .int j => some (decide (i = j))
  | .str x, .str y => some (decide (x = y))
  | .bl x, .bl y => some (decide (x = y))
  | .non, .non => some true
  | .non, .int _ => some false
  | .non, .str _ => some false
  | .int _, .non => some false
  | .str _, .non => some false
  | .int _, .str _ => some false
  | .str _, .int _ => some false
  | _, _ => deqP st a b
def bEq : D → D → Store → B := fun a b st => (deq st a b).map fun r => (.bl r, st)
def bNe : D → D → Store → B := fun a b st => (deq st a b).map fun r => (.bl (!r), st)
section
variable {X : Cx}
theorem deqP_ok {K : PySem.W.Frag} {π : List Addr} {H : Hp} {st : Store} {a b : D} {v w : V} {r : Bool} (hr : RelSt K π H st) (ha : Rv K π H a v) (hb : Rv K π H b w) (h : deqP st a b = some r) :
    ∃ p q, Dp K H v p ∧ Dp K H w q ∧ SeqAt.shaped p = true ∧ SeqAt.shaped q = true ∧ r = PyData.eqv p q := by
  unfold deqP at h
  split at h
  · rename_i p q e1 e2
    split at h
    · rename_i z
      cases h
      obtain ⟨z1, z2⟩ := Bool.and_eq_true_iff.mp z
      exact ⟨p, q, dP_ok hr _ _ _ _ e1 ha, dP_ok hr _ _ _ _ e2 hb, z1, z2, rfl⟩
    · cases h
  · cases h
theorem decV_str {x y : Str} : decide (V.str x = V.str y) = decide (x = y) := by simp
theorem decV_int {x y : Int} : decide (V.int x = V.int y) = decide (x = y) := by simp
theorem decV_bl {x y : Bool} : decide (V.bl x = V.bl y) = decide (x = y) := by simp
theorem os_eq (hu : X.A.units + 64 < cLine) : OpS X (compareOp .Eq) bEq := by
  intro pins s σ H x y v u Q I rx ry h
  obtain ⟨π, st, a, b, hr, ha, hb, h⟩ := h
  unfold bEq deq at h
  have go : ∀ {o : Option Bool}, deqP st a b = o → FinB X.K π H (o.map fun r => (D.bl r, st)) Q → wpAny (model X.prog X.w) X.A (compareOp .Eq v u) (EP X pins σ Q) X.xe s := fun {o} e h => by
    cases o with
    | none => exact h.elim
    | some r =>
      obtain ⟨p, q, h1, h2, h3, h4, rfl⟩ := deqP_ok hr ha hb e
      exact op_eqD hu pins s σ H x y v u Q I rx ry ⟨p, q, h1, h2, h3, h4, FinB.some hr h rfl⟩
  split at h
  all_goals first
    | exact go rfl h
    | (cases ha; cases hb; exact op_eq pins s σ H _ _ v u Q I rx ry ⟨rfl, FinB.some hr h (by first | rfl | (show V.bl _ = V.bl _; first | rw [decV_int] | rw [decV_str] | rw [decV_bl]))⟩)
theorem os_ne (hu : X.A.units + 64 < cLine) : OpS X (compareOp .NotEq) bNe := by
  intro pins s σ H x y v u Q I rx ry h
  obtain ⟨π, st, a, b, hr, ha, hb, h⟩ := h
  unfold bNe deq at h
  have go : ∀ {o : Option Bool}, deqP st a b = o → FinB X.K π H (o.map fun r => (D.bl (!r), st)) Q → wpAny (model X.prog X.w) X.A (compareOp .NotEq v u) (EP X pins σ Q) X.xe s := fun {o} e h => by
    cases o with
    | none => exact h.elim
    | some r =>
      obtain ⟨p, q, h1, h2, h3, h4, rfl⟩ := deqP_ok hr ha hb e
      exact op_neD hu pins s σ H x y v u Q I rx ry ⟨p, q, h1, h2, h3, h4, FinB.some hr h rfl⟩
  split at h
  all_goals first
    | exact go rfl h
    | (cases ha; cases hb; exact op_ne pins s σ H _ _ v u Q I rx ry ⟨rfl, FinB.some hr h (by first | rfl | (show V.bl _ = V.bl _; first | rw [decV_int] | rw [decV_str] | rw [decV_bl]))⟩)
end
end RQ

/-! S5: dicts, in, subscripts, stores. -/
namespace RQ
open PySem PySem.Spec PyProof.Rows L2

/-! ### keys -/
theorem keyD_kV {K : PySem.W.Frag} {π : List Addr} {H : Hp} {d : D} {k : Key} {v : V} (e : keyD d = some k) (h : Rv K π H d v) : v = kV k := by
  cases d with
  | int i => cases e; exact h
  | str x => cases e; exact h
  | _ => cases e
theorem keysD_kV {K : PySem.W.Frag} {π : List Addr} {H : Hp} : ∀ {l : List D} {ks : List Key} {vs : List V}, l.mapM keyD = some ks → Rvs K π H l vs → vs = ks.map kV
  | [], ks, vs, e, h => by
    have : ks = [] := by simpa using e.symm
    rw [this]; exact h
  | d :: r, ks, vs, e, h => by
    obtain ⟨v, q, rfl, h1, h2⟩ := h
    rw [List.mapM_cons] at e
    cases e1 : keyD d with
    | none => rw [e1] at e; cases e
    | some k =>
      cases e2 : r.mapM keyD with
      | none => rw [e1, e2] at e; cases e
      | some ks' =>
        rw [e1, e2] at e
        have : ks = k :: ks' := by simpa using e.symm
        rw [this, keyD_kV e1 h1, keysD_kV e2 h2]; rfl
theorem keyT_tup {K : PySem.W.Frag} {π : List Addr} {H : Hp} {d : D} {k : List Key} {v : V} (e : keyT d = some k) (h : Rv K π H d v) : ∃ b, v = .ref b ∧ H b = some (.tup (k.map kV)) := by
  cases d with
  | tup l =>
    obtain ⟨a, vs, rfl, hq, hv⟩ := h
    exact ⟨a, rfl, by rw [← keysD_kV e hv]; exact hq⟩
  | _ => cases e
/-- the value at a key, the place of it taken by another -/
def lookBy {κ : Type} [DecidableEq κ] (kf : D → Option κ) (k : κ) : List (D × D) → Option D
  | [] => none
  | p :: r => if kf p.1 = some k then some p.2 else lookBy kf k r
def putBy {κ : Type} [DecidableEq κ] (kf : D → Option κ) (k : κ) (kd v : D) (l : List (D × D)) : List (D × D) :=
  if (l.any fun p => decide (kf p.1 = some k)) then l.map (fun p => if kf p.1 = some k then (p.1, v) else p) else l ++ [(kd, v)]
section
variable {κ : Type} [DecidableEq κ] {K : PySem.W.Frag} {π : List Addr} {H : Hp} {kf : D → Option κ}
theorem look_val {k : κ} : ∀ {l : List (D × D)} {kv : List (κ × V)}, PK2 K π H kf l kv → match lookBy kf k l with
    | some d => ∃ v, valV kv k = some v ∧ Rv K π H d v
    | none => valV kv k = none
  | _, _, .nil => rfl
  | p :: r, q :: s, .cons h t => by
    unfold lookBy valV
    rw [List.find?_cons]
    by_cases e : q.1 = k
    · rw [if_pos (by rw [h.1, e]), decide_eq_true e]
      exact ⟨q.2, rfl, h.2⟩
    · rw [if_neg (by rw [h.1]; simpa using e), decide_eq_false e]
      exact look_val t
theorem any_same {k : κ} : ∀ {l : List (D × D)} {kv : List (κ × V)}, PK2 K π H kf l kv → (l.any fun p => decide (kf p.1 = some k)) = (kv.any fun q => decide (q.1 = k))
  | _, _, .nil => rfl
  | p :: r, q :: s, .cons h t => by
    rw [List.any_cons, List.any_cons, any_same t, h.1]
    simp
theorem put_val {k : κ} {kd d : D} {v : V} (hk : kf kd = some k) (hv : Rv K π H d v) {l : List (D × D)} {kv : List (κ × V)} (h : PK2 K π H kf l kv) : PK2 K π H kf (putBy kf k kd d l) (putK kv k v) := by
  unfold putBy putK
  rw [any_same h]
  split
  · have go : ∀ {l : List (D × D)} {kv : List (κ × V)}, PK2 K π H kf l kv → PK2 K π H kf (l.map fun p => if kf p.1 = some k then (p.1, d) else p) (kv.map fun q => if q.1 = k then (q.1, v) else q) := by
      intro l kv h
      induction h with
      | nil => exact .nil
      | @cons p q r s h t ih =>
        refine .cons ?_ ih
        by_cases e : q.1 = k
        · show kf (if kf p.1 = some k then (p.1, d) else p).1 = some (if q.1 = k then (q.1, v) else q).1 ∧ Rv K π H (if kf p.1 = some k then (p.1, d) else p).2 (if q.1 = k then (q.1, v) else q).2
          rw [if_pos e, if_pos (show kf p.1 = some k by rw [h.1, e])]
          exact ⟨h.1, hv⟩
        · show kf (if kf p.1 = some k then (p.1, d) else p).1 = some (if q.1 = k then (q.1, v) else q).1 ∧ Rv K π H (if kf p.1 = some k then (p.1, d) else p).2 (if q.1 = k then (q.1, v) else q).2
          rw [if_neg e, if_neg (show ¬ kf p.1 = some k by rw [h.1]; simpa using e)]
          exact h
    exact go h
  · have go : ∀ {l : List (D × D)} {kv : List (κ × V)}, PK2 K π H kf l kv → PK2 K π H kf (l ++ [(kd, d)]) (kv ++ [(k, v)]) := by
      intro l kv h
      induction h with
      | nil => exact .cons ⟨hk, hv⟩ .nil
      | cons h t ih => exact .cons h ih
    exact go h
theorem paired_len {α β : Type} {F : α → β → Prop} : ∀ {l : List α} {m : List β}, Paired F l m → l.length = m.length
  | _, _, .nil => rfl
  | _, _, .cons _ t => by simp [paired_len t]
end
/-- d[k]: none: not a key that is served; some none: not there -/
def dGet (t : Bool) (l : List (D × D)) (k : D) : Option (Option D) := match t with
  | false => (keyD k).map fun kk => lookBy keyD kk l
  | true => (keyT k).map fun kk => lookBy keyT kk l
def dPut (t : Bool) (l : List (D × D)) (k v : D) : Option (List (D × D)) := if small l.length then (match t with
  | false => (keyD k).map fun kk => putBy keyD kk k v l
  | true => (keyT k).map fun kk => putBy keyT kk k v l) else none
section
variable {K : PySem.W.Frag} {π π' : List Addr} {H H' : Hp} {o : HO} {l : List (D × D)} {t : Bool} {st : Store}
/-- what the layer's look-up is given -/
theorem dget_ok {a : Addr} {k : D} {y : V} {r : Option D} (hr : RelSt K π H st) (ha : Rd H a o) (h : RelD K π H t l o) (hk : Rv K π H k y) (e : dGet t l k = some r) : match r with
    | some d => ∃ v, DGet H a y (some v) ∧ Rv K π H d v
    | none => DGet H a y none := by
  cases t with
  | false =>
    obtain ⟨kv, rfl, h⟩ := h
    have e' : (keyD k).map (fun kk => lookBy keyD kk l) = some r := e
    cases z : keyD k with
    | none => rw [z] at e'; cases e'
    | some kk =>
      rw [z] at e'
      have er : lookBy keyD kk l = r := Option.some.inj e'
      have q := look_val (K := K) (π := π) (H := H) (k := kk) h
      rw [er] at q
      cases r with
      | none => exact .inl ⟨kv, kk, ha, keyD_kV z hk, q.symm⟩
      | some d =>
        obtain ⟨v, e1, e2⟩ := q
        exact ⟨v, .inl ⟨kv, kk, ha, keyD_kV z hk, e1.symm⟩, e2⟩
  | true =>
    obtain ⟨kv, rfl, h⟩ := h
    have e' : (keyT k).map (fun kk => lookBy keyT kk l) = some r := e
    cases z : keyT k with
    | none => rw [z] at e'; cases e'
    | some kk =>
      rw [z] at e'
      obtain ⟨b, rfl, hb⟩ := keyT_tup z hk
      have er : lookBy keyT kk l = r := Option.some.inj e'
      have q := look_val (K := K) (π := π) (H := H) (k := kk) h
      rw [er] at q
      cases r with
      | none => exact .inr ⟨kv, kk, b, ha, rfl, hb, q.symm⟩
      | some d =>
        obtain ⟨v, e1, e2⟩ := q
        exact ⟨v, .inr ⟨kv, kk, b, ha, rfl, hb, e1.symm⟩, e2⟩
theorem dput_ok {a : Addr} {n : Nat} {k d : D} {y v : V} {l' : List (D × D)} (hr : RelSt K π H st) (hn : π[n]? = some a) (ha : H a = some o) (h : RelD K π H t l o) (hk : Rv K π H k y) (hv : Rv K π H d v) (e : dPut t l k d = some l') :
    ∃ o', DPut H a y v (upd H a o') ∧ RelSt K π (upd H a o') (st.set n (.dic t l')) ∧ Keep π H π (upd H a o') := by
  unfold dPut at e
  split at e
  · rename_i hs
    cases t with
    | false =>
      obtain ⟨kv, rfl, h⟩ := h
      have e' : (keyD k).map (fun kk => putBy keyD kk k d l) = some l' := e
      cases z : keyD k with
      | none => rw [z] at e'; cases e'
      | some kk =>
        rw [z] at e'
        have er : putBy keyD kk k d l = l' := Option.some.inj e'
        have kw := keep_write (H := H) (o := .dK (putK kv kk v)) hn
        refine ⟨.dK (putK kv kk v), .inl ⟨kv, kk, ha, keyD_kV z hk, by rw [← paired_len h]; exact small_lt hs, rfl⟩, hr.write hn ⟨_, rfl, ?_⟩, kw⟩
        rw [← er]
        exact put_val z (Rv.keep hr kw d hv) (PairedMono h fun _ _ x => ⟨x.1, Rv.keep hr kw _ x.2⟩)
    | true =>
      obtain ⟨kv, rfl, h⟩ := h
      have e' : (keyT k).map (fun kk => putBy keyT kk k d l) = some l' := e
      cases z : keyT k with
      | none => rw [z] at e'; cases e'
      | some kk =>
        rw [z] at e'
        obtain ⟨b, rfl, hb⟩ := keyT_tup z hk
        have er : putBy keyT kk k d l = l' := Option.some.inj e'
        have kw := keep_write (H := H) (o := .dT (putK kv kk v)) hn
        refine ⟨.dT (putK kv kk v), .inr ⟨kv, kk, b, ha, rfl, hb, by rw [← paired_len h]; exact small_lt hs, rfl⟩, hr.write hn ⟨_, rfl, ?_⟩, kw⟩
        rw [← er]
        exact put_val z (Rv.keep hr kw d hv) (PairedMono h fun _ _ x => ⟨x.1, Rv.keep hr kw _ x.2⟩)
  · cases e
end

/-! ### a[i] -/
def bIx : D → D → Store → B := fun a b st => match a with
  | .str x => (match b with
    | .int i => if small x.length then (atI x.cps.toList i).map fun c => (.str ⟨#[c]⟩, st) else none
    | _ => none)
  | .scr l => (match b with
    | .int i => (atI l i).map fun n => (.int n, st)
    | _ => none)
  | .tup l => (match b with
    | .int i => (atI l i).map fun d => (d, st)
    | _ => none)
  | .ktup l => (match b with
    | .int i => (atI l i).map fun d => (d, st)
    | _ => none)
  | .ref n => (match st[n]? with
    | some (.lst l) => (match b with
      | .int i => (atI l i).map fun d => (d, st)
      | _ => none)
    | some (.dic t l) => (match dGet t l b with
      | some (some d) => some (d, st)
      | _ => none)
    | some (.lck t l) => (match dGet t l b with
      | some (some d) => some (d, st)
      | _ => none)
    | _ => none)
  | _ => none
theorem atI_V {K : PySem.W.Frag} {π : List Addr} {H : Hp} {l : List D} {vs : List V} {i : Int} {d : D} (h : Rvs K π H l vs) (e : atI l i = some d) : ∃ v, atI vs i = some v ∧ Rv K π H d v := by
  unfold atI at e ⊢
  rw [← h.length]
  cases z : ixN l.length i with
  | none => rw [z] at e; cases e
  | some j =>
    rw [z] at e
    exact h.get e
section
variable {X : Cx} {E : XK}
theorem ix_dict (hu : X.A.units + 1 < cLine) : IxR X (fun x y H Q => ∃ a v, x = .ref a ∧ DGet H a y (some v) ∧ Q v H) := by
  intro value slice pins s σ H x y v u Q I rx ry h hs
  obtain ⟨a, z, rfl, g, q⟩ := h
  cases rx
  exact tail_any (dict_typeIs I g) PySem.F.slot_dict_getitem.lookup (d_getItem hu I g ry fun w' s3 I3 rw' => ⟨z, H, I3, rw', q⟩) hs
theorem ix_D (hu : X.A.units + 1 < cLine) : IxR X (rOf X.K bIx) := by
  intro value slice pins s σ H x y v u Q I rx ry h hs
  obtain ⟨π, st, a, b, hr, ha, hb, h⟩ := h
  have seq : ∀ {l : List D} {i : Int}, b = .int i → (∃ p vs, x = .ref p ∧ (SqL X.K H p vs ∨ SqT X.K H p vs) ∧ Rvs X.K π H l vs) → FinB X.K π H ((atI l i).map fun d => (d, st)) Q → wpAny (model X.prog X.w) X.A (subscriptTail value slice v u) (EP X pins σ Q) X.xe s := by
    rintro l i rfl ⟨p, vs, rfl, hq, hv⟩ h
    cases e : atI l i with
    | none => rw [e] at h; exact h.elim
    | some d =>
      rw [e] at h
      obtain ⟨z, e1, e2⟩ := atI_V hv e
      rcases hq with hq | hq
      · exact ix_list value slice pins s σ H _ y v u Q I rx ry ⟨p, vs, i, z, rfl, hb, hq, e1, FinB.some hr h e2⟩ hs
      · exact ix_tup value slice pins s σ H _ y v u Q I rx ry ⟨p, vs, i, z, rfl, hb, hq, e1, FinB.some hr h e2⟩ hs
  have dict : ∀ {t : Bool} {l : List (D × D)} {p : Addr} {o : HO}, x = .ref p → Rd H p o → RelD X.K π H t l o → FinB X.K π H (match dGet t l b with | some (some d) => some (d, st) | _ => none) Q → wpAny (model X.prog X.w) X.A (subscriptTail value slice v u) (EP X pins σ Q) X.xe s := by
    rintro t l p o rfl hp hd h
    cases e : dGet t l b with
    | none => rw [e] at h; exact h.elim
    | some r =>
      cases r with
      | none => rw [e] at h; exact h.elim
      | some d =>
        rw [e] at h
        obtain ⟨z, g, hz⟩ := dget_ok hr hp hd hb e
        exact ix_dict hu value slice pins s σ H _ y v u Q I rx ry ⟨p, z, rfl, g, FinB.some hr h hz⟩ hs
  cases a with
  | str w =>
    cases b with
    | int i =>
      have h' : FinB X.K π H (if small w.length then (atI w.cps.toList i).map fun c => (D.str ⟨#[c]⟩, st) else none) Q := h
      split at h'
      · rename_i z
        cases e : atI w.cps.toList i with
        | none => rw [e] at h'; exact h'.elim
        | some c =>
          rw [e] at h'
          exact ix_str value slice pins s σ H x y v u Q I rx ry ⟨w, i, c, ha, hb, small_ok z, e, FinB.some hr h' rfl⟩ hs
      · exact h'.elim
    | _ => exact h.elim
  | scr l =>
    cases b with
    | int i =>
      have h' : FinB X.K π H ((atI l i).map fun c => (D.int c, st)) Q := h
      obtain ⟨p, rfl, hq⟩ := ha
      refine seq (l := l.map D.int) rfl ⟨p, _, rfl, .inl hq.sq, Rvs.ints⟩ ?_
      have z : (atI (l.map D.int) i).map (fun d => (d, st)) = (atI l i).map fun c => (D.int c, st) := by
        unfold atI
        rw [List.length_map]
        cases ixN l.length i with
        | none => rfl
        | some j =>
          show ((l.map D.int)[j]?).map (fun d => (d, st)) = (l[j]?).map fun c => (D.int c, st)
          rw [List.getElem?_map]
          cases l[j]? <;> rfl
      rw [z]; exact h'
    | _ => exact h.elim
  | tup l =>
    cases b with
    | int i =>
      obtain ⟨p, vs, rfl, hq, hv⟩ := ha
      exact seq rfl ⟨p, vs, rfl, .inr (SqT.of hq), hv⟩ h
    | _ => exact h.elim
  | ktup l =>
    cases b with
    | int i =>
      obtain ⟨p, vs, rfl, hq, hv⟩ := ha
      exact seq rfl ⟨p, vs, rfl, .inr (.inr hq), hv⟩ h
    | _ => exact h.elim
  | ref n =>
    dsimp only [bIx] at h
    cases e : st[n]? with
    | none => rw [e] at h; exact h.elim
    | some c =>
      rw [e] at h
      cases c with
      | lst l =>
        cases b with
        | int i =>
          obtain ⟨p, vs, _, rfl, h1, hv⟩ := Rv.ref_lst hr ha e
          exact seq rfl ⟨p, vs, rfl, .inl (SqL.of h1), hv⟩ h
        | _ => exact h.elim
      | dic t l =>
        obtain ⟨p, o, _, rfl, h1, hd⟩ := Rv.ref_dic hr ha e
        exact dict rfl (Rd.of h1) hd h
      | lck t l =>
        obtain ⟨p, e1, rfl⟩ := ha
        obtain ⟨p', o, e2, e3, ob, w, rfl, hd⟩ := hr.cells n _ e
        rw [e1] at e2; cases e2
        exact dict rfl (.inr ⟨ob, e3⟩) hd h
      | ins c fs => exact h.elim
  | _ => exact h.elim
theorem qe_sub {a b : Expr} {ma mb : Rho → Store → R D} {pos : Pos} (hu : X.A.units + 1 < cLine) (ha : QE X E a ma) (hb : QE X E b mb) (hs : PlainIx b := by intro _ _; rfl) : QE X E (.Subscript a b pos) (mBin bIx ma mb) := PE.imp (pe_ix (ix_D hu) ha hb hs) fun _ _ _ h => le_bin h
end

/-! ### a[i] = v -/
def bSet : D → D → D → Store → Option Store := fun o i d st => match o with
  | .ref n => (match st[n]? with
    | some (.lst l) => (match i with
      | .int k => (ixN l.length k).map fun j => st.set n (.lst (l.set j d))
      | _ => none)
    | some (.dic t l) => (dPut t l i d).map fun l' => st.set n (.dic t l')
    | _ => none)
  | _ => none
def gS (mo mi : Rho → Store → R D) : MG := fun d ρ st => (mo ρ st).bind fun o s1 => (mi ρ s1).bind fun i s2 => match bSet o i d s2 with
  | some s3 => .ok ρ s3
  | none => .bad
section
variable {X : Cx} {E : XK}
def rSetD (K : PySem.W.Frag) : TSet := fun o i v H Q => ∃ π st a b d, RelSt K π H st ∧ Rv K π H a o ∧ Rv K π H b i ∧ Rv K π H d v ∧ match bSet a b d st with
  | some st' => ∀ π' H', Keep π H π' H' → RelSt K π' H' st' → Q H'
  | none => False
theorem set_D (hu : X.A.units + 1 < cLine) : PSet X (rSetD X.K) := by
  intro pins s σ H o i v ov iv u Q I ro ri rv h
  obtain ⟨π, st, a, b, d, hr, ha, hb, hd, h⟩ := h
  cases a with
  | ref n =>
    dsimp only [bSet] at h
    cases e : st[n]? with
    | none => rw [e] at h; exact h.elim
    | some c =>
      rw [e] at h
      cases c with
      | lst l =>
        cases b with
        | int k =>
          obtain ⟨p, vs, hn, rfl, h1, hv⟩ := Rv.ref_lst hr ha e
          have h' : match ((ixN l.length k).map fun j => st.set n (.lst (l.set j d))) with | some st' => ∀ π' H', Keep π H π' H' → RelSt X.K π' H' st' → Q H' | none => False := h
          cases z : ixN l.length k with
          | none => rw [z] at h'; exact h'.elim
          | some j =>
            rw [z] at h'
            have kw := keep_write (H := H) (o := .lst (vs.set j v)) hn
            exact set_list pins s σ H _ i v ov iv u Q I ro ri rv ⟨p, vs, k, j, rfl, hb, h1, by rw [← hv.length]; exact z,
              h' π _ kw (hr.write hn ⟨_, rfl, Rvs.set j (Rvs.keep hr kw l hv) (Rv.keep hr kw d hd)⟩)⟩
        | _ => exact h.elim
      | dic t l =>
        obtain ⟨p, oo, hn, rfl, h1, hdd⟩ := Rv.ref_dic hr ha e
        have h' : match ((dPut t l b d).map fun l' => st.set n (.dic t l')) with | some st' => ∀ π' H', Keep π H π' H' → RelSt X.K π' H' st' → Q H' | none => False := h
        cases z : dPut t l b d with
        | none => rw [z] at h'; exact h'.elim
        | some l' =>
          rw [z] at h'
          obtain ⟨o', g, r2, k2⟩ := dput_ok hr hn h1 hdd hb hd z
          cases ro
          exact d_setItem hu I g ri rv fun s' I' => ⟨_, I', h' π _ k2 r2⟩
      | _ => exact h.elim
  | _ => exact h.elim
theorem qg_sub {o i : Expr} {mo mi : Rho → Store → R D} {pos : Pos} (hu : X.A.units + 1 < cLine) (ho : QE X E o mo) (hi : QE X E i mi)
    (ha : ∀ v, assign (.Subscript o i pos) X.env v = (do
      let ov ← holding [v] (eval o X.env)
      let iv ← holding [v, ov] (eval i X.env)
      standAt pos
      holding [v, ov, iv] (setItem ov iv v)
      release [v, ov, iv] []) := by intro _; rfl) : QG X E (.Subscript o i pos) (gS mo mi) := PG.imp (pg_sub ho hi (set_D hu) ha) fun v σ H Q h => by
  obtain ⟨π, ρ, st, d, he, hr, hv, h⟩ := h
  refine ⟨π, ρ, st, he, hr, FinR.mono h.bindE fun a π1 H1 st1 k1 r1 hf x hx => ?_⟩
  have he1 := RelEnv.keep hr k1 he
  have hv1 := Rv.keep hr k1 d hv
  refine ⟨π1, ρ, st1, he1, r1, FinR.mono hf.bindE fun b π2 H2 st2 k2 r2 hf2 y hy => ?_⟩
  refine ⟨π2, st2, a, b, d, r2, Rv.keep r1 k2 a hx, hy, Rv.keep r1 k2 d hv1, ?_⟩
  cases e3 : bSet a b d st2 with
  | some s3 =>
    rw [e3] at hf2
    exact fun π3 H3 k3 r3 => hf2 π3 H3 k3 r3 σ (RelEnv.keep r2 k3 (RelEnv.keep r1 k2 he1))
  | none =>
    rw [e3] at hf2
    exact hf2.elim
end

/-! ### x in y -/
def flatD : D → Bool
  | .non => true | .bl _ => true | .int _ => true | .str _ => true
  | _ => false
def vF : D → V
  | .bl b => .bl b | .int i => .int i | .str x => .str x
  | _ => .non
theorem flat_v {K : PySem.W.Frag} {π : List Addr} {H : Hp} {d : D} {v : V} (f : flatD d = true) (h : Rv K π H d v) : v = vF d ∧ flatV v = true := by
  cases d with
  | non => exact ⟨h, by rw [show v = .non from h]; rfl⟩
  | bl b => exact ⟨h, by rw [show v = .bl b from h]; rfl⟩
  | int i => exact ⟨h, by rw [show v = .int i from h]; rfl⟩
  | str x => exact ⟨h, by rw [show v = .str x from h]; rfl⟩
  | _ => cases f
theorem flat_vs {K : PySem.W.Frag} {π : List Addr} {H : Hp} : ∀ {l : List D} {vs : List V}, l.all flatD = true → Rvs K π H l vs → vs = l.map vF ∧ vs.all flatV = true
  | [], vs, _, h => by rw [show vs = [] from h]; exact ⟨rfl, rfl⟩
  | d :: r, vs, f, h => by
    obtain ⟨v, q, rfl, h1, h2⟩ := h
    obtain ⟨f1, f2⟩ := Bool.and_eq_true_iff.mp (by simpa using f : (flatD d && r.all flatD) = true)
    obtain ⟨e1, g1⟩ := flat_v f1 h1
    obtain ⟨e2, g2⟩ := flat_vs f2 h2
    exact ⟨by rw [e1, e2]; rfl, by simp [g1]; simpa using g2⟩
/-- == of flat ones -/
def eqF : D → D → Bool := fun a b => eqV (vF a) (vF b)
def inF (x : D) (l : List D) : Bool := l.any fun y => eqF y x
/-- a sign in a text, a key in a dict, a part in a list, a tuple; none: not served -/
def inD (st : Store) (x y : D) : Option Bool := match y with
  | .str z => (match x with
    | .str w => (match w.cps.toList with
      | [c] => some (decide (c ∈ z.cps.toList))
      | _ => none)
    | _ => none)
  | .tup l => if flatD x && l.all flatD then some (inF x l) else none
  | .ktup l => if flatD x && l.all flatD then some (inF x l) else none
  | .ref n => (match st[n]? with
    | some (.lst l) => if flatD x && l.all flatD then some (inF x l) else (match dP st dpth x, mapO (dP st dpth) l with
      | some p, some ps => if sh p && sh (.list ps) then some (ps.any fun z => PyData.eqv z p) else none
      | _, _ => none)
    | some (.dic t l) => (dGet t l x).map (·.isSome)
    | some (.lck t l) => (dGet t l x).map (·.isSome)
    | _ => none)
  | _ => none
def bIn : D → D → Store → B := fun x y st => (inD st x y).map fun r => (.bl r, st)
def bNotIn : D → D → Store → B := fun x y st => (inD st x y).map fun r => (.bl (!r), st)
section
variable {X : Cx} {E : XK}
theorem str_one {w : Str} {c : Nat} (h : w.cps.toList = [c]) : w = ⟨#[c]⟩ := by
  obtain ⟨a⟩ := w
  have : a = #[c] := by
    apply Array.ext'
    simpa using h
  rw [this]
def ng (neg r : Bool) : Bool := if neg then !r else r
theorem in_D (hu : X.A.units + 65 < cLine) (neg : Bool) {op : Value → Value → Sem Value} (h1 : OpR X op (fun x y H Q => ∃ (c : Nat) (z : Str), x = .str ⟨#[c]⟩ ∧ y = .str z ∧ Q (.bl (ng neg (decide (c ∈ z.cps.toList)))) H))
    (h2 : OpR X op (rIn X.K neg)) (h3 : OpR X op (fun x y H Q => ∃ d ds, Dp X.K H x d ∧ Dp X.K H y (.list ds) ∧ SeqAt.shaped d = true ∧ SeqAt.shaped (.list ds) = true ∧ Q (.bl (ng neg (ds.any fun z => PyData.eqv z d))) H))
    (h4 : ∀ (pins : List (Addr × Obj)) (s : Shared) (σ : L2.St) (H : Hp) (y : V) (v u : Value) (a : Addr) (o : Option V) (Q : VK), Inv X pins σ H s → DGet H a y o → RelV y v → u = Value.ref a → Q (.bl (ng neg o.isSome)) H → wpAny (model X.prog X.w) X.A (op v u) (EP X pins σ Q) X.xe s) :
    OpS X op fun x y st => (inD st x y).map fun r => (.bl (ng neg r), st) := by
  intro pins s σ H x y v u Q I rx ry h
  obtain ⟨π, st, a, b, hr, ha, hb, h⟩ := h
  dsimp only at h
  cases ei : inD st a b with
  | none => rw [ei] at h; exact h.elim
  | some r =>
  rw [ei] at h
  have q : Q (.bl (ng neg r)) H := FinB.some hr h rfl
  have flat : ∀ {l : List D} {p : Addr} {vs : List V}, y = .ref p → (SqL X.K H p vs ∨ SqT X.K H p vs) → Rvs X.K π H l vs → (flatD a && l.all flatD) = true → inF a l = r → wpAny (model X.prog X.w) X.A (op v u) (EP X pins σ Q) X.xe s := by
    rintro l p vs rfl hq hv f er
    obtain ⟨f1, f2⟩ := Bool.and_eq_true_iff.mp f
    obtain ⟨e1, g1⟩ := flat_v f1 ha
    obtain ⟨e2, g2⟩ := flat_vs f2 hv
    refine h2 pins s σ H x _ v u Q I rx ry ⟨p, vs, rfl, hq, g1, g2, ?_⟩
    have z : inV x vs = inF a l := by
      unfold inV inF eqF
      rw [e1, e2, List.any_map]
      rfl
    rw [z, er]
    exact q
  have dict : ∀ {t : Bool} {l : List (D × D)} {p : Addr} {o : HO}, y = .ref p → Rd H p o → RelD X.K π H t l o → (dGet t l a).map (·.isSome) = some r → wpAny (model X.prog X.w) X.A (op v u) (EP X pins σ Q) X.xe s := by
    rintro t l p o rfl hp hd e
    cases e1 : dGet t l a with
    | none => rw [e1] at e; cases e
    | some r1 =>
      rw [e1] at e
      have g := dget_ok hr hp hd ha e1
      cases r1 with
      | none => cases e; exact h4 pins s σ H x v u p none Q I g rx ry q
      | some d =>
        cases e
        obtain ⟨z, g, _⟩ := g
        exact h4 pins s σ H x v u p (some z) Q I g rx ry q
  cases b with
  | str z =>
    cases a with
    | str w =>
      dsimp only [inD] at ei
      split at ei
      · rename_i c ec
        cases ei
        exact h1 pins s σ H x y v u Q I rx ry ⟨c, z, by rw [show x = .str w from ha, str_one ec], hb, q⟩
      · cases ei
    | _ => cases ei
  | tup l =>
    obtain ⟨p, vs, rfl, hq, hv⟩ := hb
    dsimp only [inD] at ei
    split at ei
    · rename_i f
      exact flat rfl (.inr (SqT.of hq)) hv f (Option.some.inj ei)
    · cases ei
  | ktup l =>
    obtain ⟨p, vs, rfl, hq, hv⟩ := hb
    dsimp only [inD] at ei
    split at ei
    · rename_i f
      exact flat rfl (.inr (.inr hq)) hv f (Option.some.inj ei)
    · cases ei
  | ref n =>
    dsimp only [inD] at ei
    cases e : st[n]? with
    | none => rw [e] at ei; cases ei
    | some c =>
      rw [e] at ei
      cases c with
      | lst l =>
        obtain ⟨p, vs, _, rfl, e1, hv⟩ := Rv.ref_lst hr hb e
        dsimp only at ei
        split at ei
        · rename_i f
          exact flat rfl (.inl (SqL.of e1)) hv f (Option.some.inj ei)
        · split at ei
          · rename_i p' ps e2 e3
            split at ei
            · rename_i z
              obtain ⟨z1, z2⟩ := Bool.and_eq_true_iff.mp z
              refine h3 pins s σ H x _ v u Q I rx ry ⟨p', ps, dP_ok hr _ _ _ _ e2 ha, .lst (SqL.of e1) (dP_all (dP_ok hr _) l ps vs e3 hv), z1, z2, ?_⟩
              rw [Option.some.inj ei]
              exact q
            · cases ei
          · cases ei
      | dic t l =>
        obtain ⟨p, o, _, rfl, e1, hd⟩ := Rv.ref_dic hr hb e
        exact dict rfl (Rd.of e1) hd ei
      | lck t l =>
        obtain ⟨p, e1, rfl⟩ := hb
        obtain ⟨p', o, e2, e3, ob, w, rfl, hd⟩ := hr.cells n _ e
        rw [e1] at e2; cases e2
        exact dict rfl (.inr ⟨ob, e3⟩) hd ei
      | ins c fs => cases ei
  | _ => cases ei
theorem os_in (hu : X.A.units + 65 < cLine) : OpS X (compareOp .In) bIn :=
  in_D hu false op_in_sign op_in_seq (op_inD hu) fun pins s σ H y v u a o Q I g r e q => by
    subst e
    exact d_in (Nat.lt_of_le_of_lt (Nat.add_le_add_left (by decide : 1 ≤ 65) _) hu) I g r fun s3 I3 => ⟨.bl o.isSome, H, I3, rfl, q⟩
theorem os_notIn (hu : X.A.units + 65 < cLine) : OpS X (compareOp .NotIn) bNotIn :=
  in_D hu true op_notIn_sign op_notIn_seq (op_notInD hu) fun pins s σ H y v u a o Q I g r e q => by
    subst e
    exact d_notIn (Nat.lt_of_le_of_lt (Nat.add_le_add_left (by decide : 1 ≤ 65) _) hu) I g r fun s3 I3 => ⟨.bl (!o.isSome), H, I3, rfl, q⟩
end
end RQ

/-! S6: what is walked; list comprehensions. -/
namespace RQ
open PySem L2 RZ

/-! ### what is walked -/
def srcL (l : List D) : Src := fun _ i => some l[i]?
/-- a list's cell, as it stands -/
def srcC (n : Nat) : Src := fun st i => match st[n]? with
  | some (.lst l) => some l[i]?
  | _ => none
def srcR (a : Int) (n : Nat) : Src := fun _ i => some (if i < n then some (.int (a + i)) else none)
def srcS (x : Str) : Src := fun _ i => some ((x.cps[i]?).map fun c => .str ⟨#[c]⟩)
/-- (i, the item) -/
def srcE (s : Src) : Src := fun st i => (s st i).map fun o => o.map fun d => .tup [.int (i : Nat), d]
def srcZ (s t : Src) : Src := fun st i => match s st i, t st i with
  | some (some a), some (some b) => some (some (.tup [a, b]))
  | some none, some _ => some none
  | some _, some none => some none
  | _, _ => none
section
variable {K : PySem.W.Frag} {π : List Addr} {H : Hp} {st : Store}
end
/-- an address that holds a sequence, by kind, and stays so -/
structure Stay (K : PySem.W.Frag) (t : Bool) (π : List Addr) (H : Hp) (a : Addr) (vs : List V) : Prop where
  at_ : ∀ π' H', Keep π H π' H' → SeqA K t H' a vs
theorem Stay.of {K : PySem.W.Frag} {t : Bool} {π : List Addr} {H : Hp} {st : Store} {a : Addr} {vs : List V} (hr : RelSt K π H st) (h : SeqA K t H a vs) (hn : ∀ vs, H a = some (.lst vs) → a ∉ π) : Stay K t π H a vs := by
  refine ⟨fun π' H' k => ?_⟩
  cases t with
  | true =>
    rcases h with (h | ⟨o, h⟩) | h
    · exact .inl (.inl (k.old a _ h (hr.out h (.inl ⟨_, rfl⟩))).1)
    · exact .inl (.inr ⟨o, (k.old a _ h (hr.out h (.inr (.inl ⟨_, _, rfl⟩)))).1⟩)
    · exact .inr h
  | false =>
    rcases h with (h | ⟨o, h⟩) | h
    · exact .inl (.inl (k.old a _ h (hn _ h)).1)
    · exact .inl (.inr ⟨o, (k.old a _ h (hr.out h (.inr (.inr (.inl ⟨_, _, rfl⟩))))).1⟩)
    · exact .inr h
section
variable {K : PySem.W.Frag} {π : List Addr} {H : Hp} {st : Store}
theorem it_stay {t : Bool} {a : Addr} {vs : List V} {l : List D} (hr : RelSt K π H st) (hs : Stay K t π H a vs) (hv : Rvs K π H l vs) : ItSrc K (match t with | true => Itt K a | false => Itl K a) (srcL l) π H := by
  intro π' H' st' i k r
  have hv' := Rvs.keep hr k l hv
  have h1 := hs.at_ π' H' k
  show match some l[i]? with | some (some d) => _ | some none => _ | none => True
  cases e : l[i]? with
  | none =>
    have e' : vs.length ≤ i := by
      rw [List.getElem?_eq_none_iff] at e
      rw [← hv'.length]; exact e
    cases t with
    | true => exact ⟨vs, h1, e'⟩
    | false => exact ⟨vs, h1, e'⟩
  | some d =>
    obtain ⟨v, e1, e2⟩ := hv'.get e
    cases t with
    | true =>
      refine ⟨⟨vs, v, h1, e1⟩, fun x H2 y => ?_⟩
      obtain ⟨rfl, y⟩ := y
      have : vs[i]? = some x := y vs h1
      rw [e1] at this; cases this
      exact ⟨Keep.refl, r, e2⟩
    | false =>
      refine ⟨⟨vs, v, h1, e1⟩, fun x H2 y => ?_⟩
      obtain ⟨rfl, y⟩ := y
      have : vs[i]? = some x := y vs h1
      rw [e1] at this; cases this
      exact ⟨Keep.refl, r, e2⟩
theorem it_cell {n : Nat} {a : Addr} (hn : π[n]? = some a) : ItSrc K (Itl K a) (srcC n) π H := by
  intro π' H' st' i k r
  unfold srcC
  cases e : st'[n]? with
  | none => trivial
  | some c =>
    cases c with
    | lst l =>
      obtain ⟨b, o, h1, h2, vs, rfl, hv⟩ := r.cells n _ e
      rw [k.get hn] at h1; cases h1
      show match some l[i]? with | some (some d) => _ | some none => _ | none => True
      cases e2 : l[i]? with
      | none =>
        refine ⟨vs, SqL.of h2, ?_⟩
        rw [List.getElem?_eq_none_iff] at e2
        rw [← hv.length]; exact e2
      | some d =>
        obtain ⟨v, e3, e4⟩ := hv.get e2
        refine ⟨⟨vs, v, SqL.of h2, e3⟩, fun x H2 y => ?_⟩
        obtain ⟨rfl, y⟩ := y
        have : vs[i]? = some x := y vs (SqL.of h2)
        rw [e3] at this; cases this
        exact ⟨Keep.refl, r, e4⟩
    | _ => trivial
theorem it_range {a : Int} {n : Nat} : ItSrc K (Itr a n) (srcR a n) π H := by
  intro π' H' st' i k r
  show match some (if i < n then some (D.int (a + i)) else none) with | some (some d) => _ | some none => _ | none => True
  by_cases h : i < n
  · rw [if_pos h]
    exact ⟨h, fun x H2 y => by obtain ⟨rfl, rfl⟩ := y; exact ⟨Keep.refl, r, rfl⟩⟩
  · rw [if_neg h]
    exact Nat.le_of_not_lt h
theorem it_str {x : Str} : ItSrc K (Its x) (srcS x) π H := by
  intro π' H' st' i k r
  show match some ((x.cps[i]?).map fun c => D.str ⟨#[c]⟩) with | some (some d) => _ | some none => _ | none => True
  cases e : x.cps[i]? with
  | none => exact Array.getElem?_eq_none_iff.mp e
  | some c =>
    refine ⟨(Array.getElem?_eq_some_iff.mp e).1, fun v H2 y => ?_⟩
    obtain ⟨rfl, c', e1, rfl⟩ := y
    rw [e] at e1; cases e1
    exact ⟨Keep.refl, r, rfl⟩
/-- enumerate over a list, by the list's source -/
theorem it_enum {a : Addr} {s : Src} (h : ItSrc K (Itl K a) s π H) : ItSrc K (Ite K a) (srcE s) π H := by
  intro π' H' st' i k r
  have q := h π' H' st' i k r
  unfold srcE
  cases e : s st' i with
  | none => trivial
  | some o =>
    rw [e] at q
    cases o with
    | none => exact q
    | some d =>
      obtain ⟨q1, q2⟩ := q
      refine ⟨q1, fun v H2 y => ?_⟩
      obtain ⟨T, x, rfl, hT, rfl, hx⟩ := y
      obtain ⟨_, _, q3⟩ := q2 x H' ⟨rfl, hx⟩
      have kn := keep_new (o := .tup [.int (i : Nat), x]) r hT
      exact ⟨kn, r.new hT, T, _, rfl, upd_same, ⟨_, _, rfl, rfl, ⟨_, _, rfl, Rv.keep r kn d q3, rfl⟩⟩⟩
theorem it_zip {a b : Addr} {s t : Src} (h : ItSrc K (Itl K a) s π H) (h' : ItSrc K (Itl K b) t π H) : ItSrc K (Itz K a b) (srcZ s t) π H := by
  intro π' H' st' i k r
  have q := h π' H' st' i k r
  have q' := h' π' H' st' i k r
  unfold srcZ
  cases e : s st' i with
  | none => trivial
  | some o =>
    cases e' : t st' i with
    | none => cases o <;> trivial
    | some o' =>
      rw [e] at q
      rw [e'] at q'
      cases o with
      | none =>
        obtain ⟨xs, hx, hl⟩ := q
        cases o' with
        | none =>
          obtain ⟨ys, hy, hm⟩ := q'
          exact ⟨xs, ys, hx, hy, .inl hl⟩
        | some d' =>
          obtain ⟨⟨ys, y, hy, hm⟩, _⟩ := q'
          exact ⟨xs, ys, hx, hy, .inl hl⟩
      | some d =>
        cases o' with
        | none =>
          obtain ⟨⟨xs, x, hx, _⟩, _⟩ := q
          obtain ⟨ys, hy, hm⟩ := q'
          exact ⟨xs, ys, hx, hy, .inr hm⟩
        | some d' =>
          obtain ⟨⟨xs, x, hx, hxi⟩, q2⟩ := q
          obtain ⟨⟨ys, y, hy, hyi⟩, q2'⟩ := q'
          refine ⟨⟨xs, ys, x, y, hx, hy, hxi, hyi⟩, fun v H2 z => ?_⟩
          obtain ⟨T, x', y', rfl, hT, rfl, h1, h2⟩ := z
          obtain ⟨_, _, q3⟩ := q2 x' H' ⟨rfl, h1⟩
          obtain ⟨_, _, q3'⟩ := q2' y' H' ⟨rfl, h2⟩
          have kn := keep_new (o := .tup [x', y']) r hT
          exact ⟨kn, r.new hT, T, _, rfl, upd_same, ⟨_, _, rfl, Rv.keep r kn d q3, ⟨_, _, rfl, Rv.keep r kn d' q3', rfl⟩⟩⟩
theorem it_zipT {a b : Addr} {s t : Src} (h : ItSrc K (Itt K a) s π H) (h' : ItSrc K (Itt K b) t π H) : ItSrc K (ItzT K a b) (srcZ s t) π H := by
  intro π' H' st' i k r
  have q := h π' H' st' i k r
  have q' := h' π' H' st' i k r
  unfold srcZ
  cases e : s st' i with
  | none => trivial
  | some o =>
    cases e' : t st' i with
    | none => cases o <;> trivial
    | some o' =>
      rw [e] at q
      rw [e'] at q'
      cases o with
      | none =>
        obtain ⟨xs, hx, hl⟩ := q
        cases o' with
        | none =>
          obtain ⟨ys, hy, hm⟩ := q'
          exact ⟨xs, ys, hx, hy, .inl hl⟩
        | some d' =>
          obtain ⟨⟨ys, y, hy, hm⟩, _⟩ := q'
          exact ⟨xs, ys, hx, hy, .inl hl⟩
      | some d =>
        cases o' with
        | none =>
          obtain ⟨⟨xs, x, hx, _⟩, _⟩ := q
          obtain ⟨ys, hy, hm⟩ := q'
          exact ⟨xs, ys, hx, hy, .inr hm⟩
        | some d' =>
          obtain ⟨⟨xs, x, hx, hxi⟩, q2⟩ := q
          obtain ⟨⟨ys, y, hy, hyi⟩, q2'⟩ := q'
          refine ⟨⟨xs, ys, x, y, hx, hy, hxi, hyi⟩, fun v H2 z => ?_⟩
          obtain ⟨T, x', y', rfl, hT, rfl, h1, h2⟩ := z
          obtain ⟨_, _, q3⟩ := q2 x' H' ⟨rfl, h1⟩
          obtain ⟨_, _, q3'⟩ := q2' y' H' ⟨rfl, h2⟩
          have kn := keep_new (o := .tup [x', y']) r hT
          exact ⟨kn, r.new hT, T, _, rfl, upd_same, ⟨_, _, rfl, Rv.keep r kn d q3, ⟨_, _, rfl, Rv.keep r kn d' q3', rfl⟩⟩⟩
end

/-! ### sequences that are walked: where they stand, and their source -/
/-- (tuple?, source, how many now) -/
abbrev Wk := Bool × Src × Nat
def ItOf (K : PySem.W.Frag) (t : Bool) (a : Addr) : It := match t with
  | true => Itt K a
  | false => Itl K a
def WkV (K : PySem.W.Frag) (π : List Addr) (H : Hp) (v : V) (s : Wk) : Prop := ∃ a vs, v = .ref a ∧ SeqA K s.1 H a vs ∧ ItSrc K (ItOf K s.1 a) s.2.1 π H
def LW (K : PySem.W.Frag) (E : XK) (m : Rho → Store → R Wk) : TE := fun σ H Q => ∃ π ρ st, RelEnv K π H ρ σ ∧ RelSt K π H st ∧ FinR K E π H (m ρ st) fun s π' H' _ => ∀ v, WkV K π' H' v s → Q v H'
abbrev QWk (X : Cx) (E : XK) (e : Expr) (m : Rho → Store → R Wk) : Prop := PE X e (LW X.K E m)
def mWL (m : Rho → Store → R (List D)) : Rho → Store → R Wk := fun ρ st => (m ρ st).bind fun ds s => .ok (false, srcL ds, ds.length) s
@[reducible] def wkD (d : D) (st : Store) : R Wk := match d with
  | .tup l => .ok (true, srcL l, l.length) st
  | .ktup l => .ok (true, srcL l, l.length) st
  | .ref n => (match st[n]? with
    | some (.lst l) => .ok (false, srcC n, l.length) st
    | _ => .bad)
  | .scr l => .ok (false, srcL (l.map .int), l.length) st
  | _ => .bad
def mWE (m : Rho → Store → R D) : Rho → Store → R Wk := fun ρ st => (m ρ st).bind wkD
section
variable {X : Cx} {E : XK} {e e2 tg : Expr} {K : PySem.W.Frag}
theorem qw_l {m : Rho → Store → R (List D)} (h : QL X E e m) : QWk X E e (mWL m) := PE.imp h fun σ H Q h => by
  obtain ⟨π, ρ, st, he, hr, h⟩ := h
  refine ⟨π, ρ, st, he, hr, FinR.mono h.bindE fun ds π1 H1 st1 k1 r1 hf p vs hp np e1 hv => ?_⟩
  exact FinR.ok r1 hf (.ref p) ⟨p, vs, rfl, SqL.of e1, it_stay (t := false) r1 (Stay.of r1 (SqL.of e1) fun _ _ => np) hv⟩
theorem qw_e {m : Rho → Store → R D} (h : QE X E e m) : QWk X E e (mWE m) := PE.imp h fun σ H Q h => by
  obtain ⟨π, ρ, st, he, hr, h⟩ := h
  refine ⟨π, ρ, st, he, hr, FinR.mono h.bindE fun d π1 H1 st1 k1 r1 hf v hv => ?_⟩
  unfold wkD at hf
  split at hf
  · obtain ⟨a, vs, rfl, hq, hvs⟩ := hv
    exact FinR.ok r1 hf (.ref a) ⟨a, vs, rfl, SqT.of hq, it_stay (t := true) r1 (Stay.of r1 (SqT.of hq) fun _ e => by rw [hq] at e; cases e) hvs⟩
  · obtain ⟨a, vs, rfl, hq, hvs⟩ := hv
    exact FinR.ok r1 hf (.ref a) ⟨a, vs, rfl, .inr hq, it_stay (t := true) r1 ⟨fun _ _ _ => .inr hq⟩ hvs⟩
  · split at hf
    · rename_i n _ l e1
      obtain ⟨a, vs, hn, rfl, ha, hvs⟩ := Rv.ref_lst r1 hv e1
      exact FinR.ok r1 hf (.ref a) ⟨a, vs, rfl, SqL.of ha, it_cell hn⟩
    · exact hf.elim
  · rename_i l
    obtain ⟨a, rfl, hq⟩ := hv
    refine FinR.ok r1 hf (.ref a) ⟨a, _, rfl, hq.sq, it_stay (t := false) r1 ⟨fun π' H' k => ?_⟩ Rvs.ints⟩
    rcases hq with ⟨o, hq⟩ | hq
    · exact .inl (.inr ⟨o, (k.old a _ hq (r1.out hq (.inr (.inr (.inl ⟨_, _, rfl⟩))))).1⟩)
    · exact .inr hq
  · exact hf.elim
/-- a list or a tuple, walked -/
def iAny (K : PySem.W.Frag) (tl : TE) : TI := fun σ H Rk => tl σ H fun x H1 => ∃ a t xs, x = .ref a ∧ SeqA K t H1 a xs ∧ Rk (ItOf K t a) H1
theorem pi_any {l : Expr} {tl : TE} (hl : PE X l tl) : PI X tg l (iAny X.K tl) := by
  refine ⟨fun pins s σ H R I h => ?_⟩
  refine thn (hl.run pins s σ H _ I h) fun v s1 ⟨x, H1, I1, r1, q1⟩ => ?_
  obtain ⟨a, t, xs, e, hq, q⟩ := q1
  subst e
  cases r1
  cases t with
  | false =>
    obtain ⟨its, rv, p, hz⟩ := I1.list hq
    refine wpAny_pyIter_list p.isList ?_
    refine ⟨s1.heap.objs.size, [s1.heap.objs.size], _, _, H1, rfl, I1.kept (t' := s1.toks) fun b o e => Heap.get?_push_of_some _ e, turn_list a _, ⟨_, Heap.get?_push_size _ rfl, rfl, rfl⟩, fun b hb => ?_, q⟩
    have e : b = s1.heap.objs.size := by simpa using hb
    subst e
    exact I1.fpOk (Nat.le_refl _) (I1.hok.fresh (Nat.le_refl _))
  | true =>
    obtain ⟨its, rv, p, hz⟩ := I1.tuple hq
    refine wpAny_pyIter_tuple (show s1.heap.IsTuple a its.toArray from p) ?_
    refine ⟨s1.heap.objs.size, [s1.heap.objs.size], _, _, H1, rfl, I1.kept (t' := s1.toks) fun b o e => Heap.get?_push_of_some _ e, turn_tuple a _, ⟨_, Heap.get?_push_size _ rfl, rfl, rfl⟩, fun b hb => ?_, q⟩
    have e : b = s1.heap.objs.size := by simpa using hb
    subst e
    exact I1.fpOk (Nat.le_refl _) (I1.hok.fresh (Nat.le_refl _))
/-- as what a for walks -/
def mIW (m : Rho → Store → R Wk) : Rho → Store → R (Src × Nat) := fun ρ st => (m ρ st).bind fun s s1 => .ok s.2 s1
theorem qi_w {m : Rho → Store → R Wk} (h : QWk X E e m) : QI X E tg e (mIW m) := PI.imp (pi_any h) fun σ H Q h => by
  obtain ⟨π, ρ, st, he, hr, h⟩ := h
  refine ⟨π, ρ, st, he, hr, FinR.mono h.bindE fun s π1 H1 st1 k1 r1 hf v hv => ?_⟩
  obtain ⟨a, vs, rfl, hq, hi⟩ := hv
  exact ⟨a, s.1, vs, rfl, hq, FinR.ok r1 hf _ hi⟩
/-- a text, walked -/
def mIS (m : Rho → Store → R D) : Rho → Store → R (Src × Nat) := fun ρ st => (m ρ st).bind fun d s1 => match d with
  | .str x => .ok (srcS x, x.length) s1
  | _ => .bad
theorem qi_s {m : Rho → Store → R D} (h : QE X E e m) : QI X E tg e (mIS m) := PI.imp (pi_str h) fun σ H Q h => by
  obtain ⟨π, ρ, st, he, hr, h⟩ := h
  refine ⟨π, ρ, st, he, hr, FinR.mono h.bindE fun d π1 H1 st1 k1 r1 hf v hv => ?_⟩
  cases d with
  | str x => exact ⟨x, hv, FinR.ok r1 hf _ it_str⟩
  | _ => exact hf.elim
/-- range -/
def bound62 (i : Int) : Bool := decide (-(2 ^ 62) ≤ i ∧ i < 2 ^ 62)
@[reducible] def rngD1 (ds : List D) (st : Store) : R (Src × Nat) := match ds with
  | [.int j] => if bound62 j then .ok (srcR 0 j.toNat, j.toNat) st else .bad
  | _ => .bad
@[reducible] def rngD2 (ds : List D) (st : Store) : R (Src × Nat) := match ds with
  | [.int i, .int j] => if bound62 i && bound62 j then .ok (srcR i (j - i).toNat, (j - i).toNat) st else .bad
  | _ => .bad
def mIR1 (ms : Rho → Store → R (List D)) : Rho → Store → R (Src × Nat) := fun ρ st => (ms ρ st).bind rngD1
def mIR2 (ms : Rho → Store → R (List D)) : Rho → Store → R (Src × Nat) := fun ρ st => (ms ρ st).bind rngD2
section
variable {a b : Expr} {ms : Rho → Store → R (List D)} {p pos : Pos}
theorem qi_range1 (hm : X.mg "range" = none) (ha : QA X E [a] ms) (hg : Gl X "range" := by rfl) (hs : starEach [a] X.env = [(false, eval a X.env)] := by rfl) : QI X E tg (.Call (.Name "range" p) [a] [] pos) (mIR1 ms) := PI.imp (pi_range1 hg hm ha hs) fun σ H Q h => by
  obtain ⟨π, ρ, st, he, hr, h⟩ := h
  refine ⟨π, ρ, st, he, hr, FinR.mono h.bindE fun ds π1 H1 st1 k1 r1 hf vs hv => ?_⟩
  unfold rngD1 at hf
  split at hf
  · rename_i j
    obtain ⟨v, rfl, hj⟩ := hv.inv1
    split at hf
    · rename_i hb
      obtain ⟨b1, b2⟩ := of_decide_eq_true hb
      exact ⟨j, by rw [show v = .int j from hj], b1, b2, FinR.ok r1 hf _ it_range⟩
    · exact hf.elim
  · exact hf.elim
theorem qi_range2 (hm : X.mg "range" = none) (ha : QA X E [a, b] ms) (hg : Gl X "range" := by rfl) (hs : starEach [a, b] X.env = [(false, eval a X.env), (false, eval b X.env)] := by rfl) (hs2 : starEach [b] X.env = [(false, eval b X.env)] := by rfl) :
    QI X E tg (.Call (.Name "range" p) [a, b] [] pos) (mIR2 ms) := PI.imp (pi_range2 hg hm ha hs hs2) fun σ H Q h => by
  obtain ⟨π, ρ, st, he, hr, h⟩ := h
  refine ⟨π, ρ, st, he, hr, FinR.mono h.bindE fun ds π1 H1 st1 k1 r1 hf vs hv => ?_⟩
  unfold rngD2 at hf
  split at hf
  · rename_i i j
    obtain ⟨v, w, rfl, hi, hj⟩ := hv.inv2
    split at hf
    · rename_i hb
      obtain ⟨hb1, hb2⟩ := Bool.and_eq_true_iff.mp hb
      obtain ⟨b1, b2⟩ := of_decide_eq_true hb1
      obtain ⟨b3, b4⟩ := of_decide_eq_true hb2
      exact ⟨i, j, by rw [show v = .int i from hi, show w = .int j from hj], ⟨b1, b2, b3, b4⟩, FinR.ok r1 hf _ it_range⟩
    · exact hf.elim
  · exact hf.elim
/-- enumerate of a list -/
@[reducible] def enuD (s : Wk) (st : Store) : R (Src × Nat) := match s with
  | (false, s, n) => .ok (srcE s, n) st
  | _ => .bad
def mIE (m : Rho → Store → R Wk) : Rho → Store → R (Src × Nat) := fun ρ st => (m ρ st).bind enuD
theorem qi_enum {elts : List Expr} {kk : Nat} {tpos : Pos} {m : Rho → Store → R Wk} (hm : X.mg "enumerate" = none) (ha : QWk X E a m) (hg : Gl X "enumerate" := by rfl) (hs : starEach [a] X.env = (false, eval a X.env) :: starEach [] X.env := by rfl) (hs1 : starEach [a] X.env = [(false, eval a X.env)] := by rfl) :
    QI X E (.Tuple elts kk tpos) (.Call (.Name "enumerate" p) [a] [] pos) (mIE m) := PI.imp (pi_enum hg hm (pa_cons ha pa_nil hs) hs1) fun σ H Q h => by
  obtain ⟨π, ρ, st, he, hr, h⟩ := h
  refine ⟨π, ρ, st, he, hr, FinR.mono h.bindE fun s π1 H1 st1 k1 r1 hf v hv => ?_⟩
  obtain ⟨b, vs, rfl, hq, hi⟩ := hv
  obtain ⟨t, s, n⟩ := s
  cases t with
  | true => exact hf.elim
  | false => exact ⟨b, vs, rfl, hq, FinR.ok r1 hf _ (it_enum hi)⟩
/-- zip of two lists, of two tuples -/
def live (s : Src) (st : Store) : Bool := (s st 0).isSome
@[reducible] def zipD (s t : Wk) (st : Store) : R (Src × Nat) := if (s.1 == t.1) && live s.2.1 st && live t.2.1 st then .ok (srcZ s.2.1 t.2.1, min s.2.2 t.2.2) st else .bad
def mIZ (m n : Rho → Store → R Wk) : Rho → Store → R (Src × Nat) := fun ρ st => (m ρ st).bind fun s s1 => (n ρ s1).bind fun t s2 => zipD s t s2
theorem live_at {K : PySem.W.Frag} {π : List Addr} {H : Hp} {st : Store} {t : Bool} {a : Addr} {s : Src} (hr : RelSt K π H st) (h : ItSrc K (ItOf K t a) s π H) (l : live s st = true) : ∃ xs, SeqA K t H a xs := by
  have q := h π H st 0 Keep.refl hr
  unfold live at l
  cases e : s st 0 with
  | none => rw [e] at l; cases l
  | some o =>
    rw [e] at q
    cases o with
    | none =>
      cases t with
      | true => obtain ⟨xs, hx, _⟩ := q; exact ⟨xs, hx⟩
      | false => obtain ⟨xs, hx, _⟩ := q; exact ⟨xs, hx⟩
    | some d =>
      cases t with
      | true => obtain ⟨⟨xs, _, hx, _⟩, _⟩ := q; exact ⟨xs, hx⟩
      | false => obtain ⟨⟨xs, _, hx, _⟩, _⟩ := q; exact ⟨xs, hx⟩
theorem qi_zip {elts : List Expr} {kk : Nat} {tpos : Pos} {m n : Rho → Store → R Wk} (hm : X.mg "zip" = none) (ha : QWk X E a m) (hb : QWk X E b n) (hg : Gl X "zip" := by rfl) (hs : starEach [a, b] X.env = (false, eval a X.env) :: starEach [b] X.env := by rfl)
    (hs2 : starEach [b] X.env = (false, eval b X.env) :: starEach [] X.env := by rfl) (hpl : (backTo pos (starEach [b] X.env)).any (·.1) = false := by rfl) :
    QI X E (.Tuple elts kk tpos) (.Call (.Name "zip" p) [a, b] [] pos) (mIZ m n) := PI.imp (pi_zipA hg hm (pa_cons ha (pa_cons hb pa_nil hs2) hs) hs hpl) fun σ H Q h => by
  obtain ⟨π, ρ, st, he, hr, h⟩ := h
  refine ⟨π, ρ, st, he, hr, FinR.mono h.bindE fun s π1 H1 st1 k1 r1 hf v hv => ?_⟩
  refine ⟨π1, ρ, st1, RelEnv.keep hr k1 he, r1, FinR.mono hf.bindE fun t π2 H2 st2 k2 r2 hf2 w hw => ?_⟩
  obtain ⟨a', vs, rfl, hq, hi⟩ := hv
  obtain ⟨b', ws, rfl, hq', hi'⟩ := hw
  have hi2 := hi.keep k2
  by_cases hz : ((s.1 == t.1) && live s.2.1 st2 && live t.2.1 st2) = true
  · rw [show zipD s t st2 = .ok (srcZ s.2.1 t.2.1, min s.2.2 t.2.2) st2 from if_pos hz] at hf2
    obtain ⟨hz1, hz3⟩ := Bool.and_eq_true_iff.mp hz
    obtain ⟨hz1, hz2⟩ := Bool.and_eq_true_iff.mp hz1
    obtain ⟨xs, hx⟩ := live_at r2 hi2 hz2
    obtain ⟨ys, hy⟩ := live_at r2 hi' hz3
    obtain ⟨t1, s, _⟩ := s
    obtain ⟨t2, t, _⟩ := t
    have e : t1 = t2 := by simpa using hz1
    subst e
    refine ⟨a', b', xs, ys, rfl, ?_⟩
    cases t1 with
    | true => exact .inr ⟨hx, hy, FinR.ok r2 hf2 _ (it_zipT hi2 hi')⟩
    | false => exact .inl ⟨hx, hy, FinR.ok r2 hf2 _ (it_zip hi2 hi')⟩
  · rw [show zipD s t st2 = .bad from if_neg hz] at hf2
    exact hf2.elim
end

/-! ### list(range(..)) -/
@[reducible] def rgL1 (ds : List D) (st : Store) : R (List D) := match ds with
  | [.int j] => if decide (j < 1000000 ∧ -(2 ^ 62) ≤ j) then .ok ((List.range j.toNat).map fun i => .int (i : Nat)) st else .bad
  | _ => .bad
end

/-! ### comprehensions: targets -/
mutual
inductive Tg where
  | nm (i : Nat) | tp (l : Tgs)
inductive Tgs where
  | nil | cons (t : Tg) (l : Tgs)
end
def Tgs.len : Tgs → Nat
  | .nil => 0
  | .cons _ l => l.len + 1
mutual
def Tg.own : Tg → List Nat
  | .nm i => [i]
  | .tp l => l.own
def Tgs.own : Tgs → List Nat
  | .nil => []
  | .cons t l => t.own ++ l.own
end
mutual
def rG (K : PySem.W.Frag) : Tg → TG
  | .nm i => gName i
  | .tp l => L2.gTup K l.len (rGs K l)
def rGs (K : PySem.W.Frag) : Tgs → TGs
  | .nil => gNil
  | .cons t l => gCons (rG K t) (rGs K l)
end
mutual
def tset : Tg → D → Rho → Option Rho
  | .nm i, d, ρ => some (ρ.set i (some d))
  | .tp l, d, ρ => match tupD d with
    | some ds => if ds.length = l.len then tsets l ds ρ else none
    | none => none
def tsets : Tgs → List D → Rho → Option Rho
  | .nil, ds, ρ => match ds with
    | [] => some ρ
    | _ => none
  | .cons t l, ds, ρ => match ds with
    | d :: r => match tset t d ρ with
      | some ρ1 => tsets l r ρ1
      | none => none
    | [] => none
end
theorem wipe_set {σ : St} {i : Nat} {x : Option V} : ∀ {vs : List Nat}, i ∈ vs → wipe (σ.set i x) vs = wipe σ vs
  | [], h => by simp at h
  | v :: vs, h => by
    unfold wipe
    by_cases hv : i = v
    · subst hv
      by_cases hm : i ∈ vs
      · rw [wipe_set hm]
      · have : ∀ (ws : List Nat) (τ : St), i ∉ ws → wipe (τ.set i x) ws = (wipe τ ws).set i x := fun ws => by
          induction ws with
          | nil => intro τ _; rfl
          | cons w ws ih =>
            intro τ hn
            simp only [List.mem_cons, not_or] at hn
            unfold wipe
            rw [ih τ hn.2]
            exact List.set_comm _ _ hn.1
        rw [this vs σ hm, List.set_set]
    · rcases List.mem_cons.mp h with e | h
      · exact absurd e hv
      · rw [wipe_set h]
section
variable {K : PySem.W.Frag} {π : List Addr} {H : Hp}
mutual
theorem rG_ok {vs : List Nat} {Q : St → Hp → Prop} : ∀ (t : Tg) {d : D} {v : V} {ρ ρ' : Rho} {σ : St}, (∀ i ∈ t.own, i ∈ vs) → Rv K π H d v → RelEnv K π H ρ σ → tset t d ρ = some ρ' → (∀ σ', RelEnv K π H ρ' σ' → wipe σ' vs = wipe σ vs → Q σ' H) → rG K t v σ H Q
  | .nm i, d, v, ρ, ρ', σ, ho, hv, he, e, q => by
    have e' : some (ρ.set i (some d)) = some ρ' := e
    cases e'
    exact q _ (he.set i hv) (wipe_set (ho i (by simp [Tg.own])))
  | .tp l, d, v, ρ, ρ', σ, ho, hv, he, e, q => by
    have e' : (match tupD d with
      | some ds => if ds.length = l.len then tsets l ds ρ else none
      | none => none) = some ρ' := by
      rw [← e]; rfl
    cases z : tupD d with
    | none => rw [z] at e'; cases e'
    | some ds =>
      rw [z] at e'
      dsimp only at e'
      split at e'
      · rename_i hl
        obtain ⟨a, ws, rfl, hq, hvs⟩ := tupD_ok hv z
        exact ⟨a, ws, rfl, hq, by rw [← hvs.length]; exact hl, rGs_ok l (fun i hi => ho i (by simpa [Tg.own] using hi)) hvs he e' q⟩
      · cases e'
theorem rGs_ok {vs : List Nat} {Q : St → Hp → Prop} : ∀ (l : Tgs) {ds : List D} {ws : List V} {ρ ρ' : Rho} {σ : St}, (∀ i ∈ l.own, i ∈ vs) → Rvs K π H ds ws → RelEnv K π H ρ σ → tsets l ds ρ = some ρ' → (∀ σ', RelEnv K π H ρ' σ' → wipe σ' vs = wipe σ vs → Q σ' H) → rGs K l ws σ H Q
  | .nil, ds, ws, ρ, ρ', σ, ho, hv, he, e, q => by
    cases ds with
    | nil => cases e; exact ⟨hv, q σ he rfl⟩
    | cons d r => cases e
  | .cons t l, ds, ws, ρ, ρ', σ, ho, hv, he, e, q => by
    cases ds with
    | nil => cases e
    | cons d r =>
      obtain ⟨v, wr, rfl, h1, h2⟩ := hv
      have e' : (match tset t d ρ with
        | some ρ1 => tsets l r ρ1
        | none => none) = some ρ' := by rw [← e]; rfl
      cases z : tset t d ρ with
      | none => rw [z] at e'; cases e'
      | some ρ1 =>
        rw [z] at e'
        refine ⟨v, wr, rfl, ?_⟩
        refine rG_ok (Q := fun σ' H' => rGs K l wr σ' H' Q) t (fun i hi => ho i (by simp [Tgs.own, hi])) h1 he z fun σ1 he1 w1 => ?_
        exact rGs_ok l (fun i hi => ho i (by simp [Tgs.own, hi])) h2 he1 e' fun σ' he' w' => q σ' he' (w'.trans w1)
end
end
end RQ

/-! S7: list comprehensions. -/
namespace RQ
open PySem L2 RZ

/-! ### a list that the store does not have is changed -/
section
variable {K : PySem.W.Frag} {π π' : List Addr} {H H' : Hp} {st : Store} {p : Addr} {xs ys : List V}
theorem Keep.over (k : Keep π H π' H') (hp : H p = none) {o : HO} : Keep π H π' (upd H' p o) :=
  ⟨k.pre, fun a u e n => ⟨by rw [upd_ne (ne_of_none e hp)]; exact (k.old a u e n).1, (k.old a u e n).2⟩⟩
theorem ne_lst {a : Addr} {o : HO} (hp : H p = some (.lst xs)) (h : H a = some o) (n : ∀ vs, o ≠ .lst vs) : a ≠ p := fun e => by
  subst e
  rw [hp] at h; cases h
  exact n _ rfl
theorem SqF.chg {a : Addr} {vs : List V} (hp : H p = some (.lst xs)) (h : SqF K H a vs) : SqF K (upd H p (.lst ys)) a vs := by
  rcases h with ⟨o, h⟩ | h
  · exact .inl ⟨o, by rw [upd_ne (ne_lst hp h fun _ e => by cases e)]; exact h⟩
  · exact .inr h
mutual
theorem Rv.chg (hp : H p = some (.lst xs)) : ∀ (d : D) {v : V}, Rv K π H d v → Rv K π (upd H p (.lst ys)) d v
  | .non, _, h => h
  | .bl _, _, h => h
  | .int _, _, h => h
  | .str _, _, h => h
  | .tup l, v, h => by
    obtain ⟨a, vs, e, q, h⟩ := h
    exact ⟨a, vs, e, by rw [upd_ne (ne_lst hp q fun _ e => by cases e)]; exact q, Rvs.chg hp l h⟩
  | .ktup l, v, h => by
    obtain ⟨a, vs, e, q, h⟩ := h
    exact ⟨a, vs, e, q, Rvs.chg hp l h⟩
  | .ref n, v, h => h
  | .exc c d, v, h => by
    obtain ⟨a, dd, w, e, h1, h2, h3⟩ := h
    exact ⟨a, dd, w, e, by rw [upd_ne (ne_lst hp h1 fun _ e => by cases e)]; exact h1, by rw [upd_ne (ne_lst hp h2 fun _ e => by cases e)]; exact h2, Rv.chg hp d h3⟩
  | .scr l, v, h => by
    obtain ⟨a, e, q⟩ := h
    exact ⟨a, e, q.chg hp⟩
theorem Rvs.chg (hp : H p = some (.lst xs)) : ∀ (l : List D) {vs : List V}, Rvs K π H l vs → Rvs K π (upd H p (.lst ys)) l vs
  | [], _, h => h
  | d :: l, vs, h => by
    obtain ⟨v, q, e, h1, h2⟩ := h
    exact ⟨v, q, e, Rv.chg hp d h1, Rvs.chg hp l h2⟩
end
theorem RelD.chg {t : Bool} {l : List (D × D)} {o : HO} (hp : H p = some (.lst xs)) (h : RelD K π H t l o) : RelD K π (upd H p (.lst ys)) t l o := by
  cases t
  all_goals
    obtain ⟨kv, e, q⟩ := h
    exact ⟨kv, e, PairedMono q fun _ _ z => ⟨z.1, Rv.chg hp _ z.2⟩⟩
theorem RelC.chg {c : Cell} {o : HO} (hp : H p = some (.lst xs)) (h : RelC K π H c o) : RelC K π (upd H p (.lst ys)) c o := by
  cases c with
  | lst l => obtain ⟨vs, e, q⟩ := h; exact ⟨vs, e, Rvs.chg hp l q⟩
  | dic t l => exact RelD.chg hp h
  | lck t l => obtain ⟨ob, u, e, q⟩ := h; exact ⟨ob, u, e, RelD.chg hp q⟩
  | ins c fs => obtain ⟨dx, fs', e, q⟩ := h; exact ⟨dx, fs', e, PairedMono q fun _ _ z => ⟨z.1, Rv.chg hp _ z.2⟩⟩
theorem RelSt.chg (r : RelSt K π H st) (hp : H p = some (.lst xs)) (np : p ∉ π) : RelSt K π (upd H p (.lst ys)) st :=
  ⟨r.len, r.nd, fun n c e => by
    obtain ⟨a, o, h1, h2, h3⟩ := r.cells n c e
    exact ⟨a, o, h1, by rw [upd_ne (fun e : a = p => np (e ▸ List.mem_of_getElem? h1))]; exact h2, h3.chg hp⟩⟩
end

/-! ### the env with the block's own names forgotten -/
def wipeR (ρ : Rho) : List Nat → Rho
  | [] => ρ
  | v :: vs => (wipeR ρ vs).set v none
theorem RelEnv.wipe {K : PySem.W.Frag} {π : List Addr} {H : Hp} {ρ : Rho} {σ : St} (h : RelEnv K π H ρ σ) : ∀ vs : List Nat, RelEnv K π H (wipeR ρ vs) (L2.wipe σ vs)
  | [] => h
  | v :: vs => by
    have ih := RelEnv.wipe h vs
    unfold wipeR L2.wipe
    refine ⟨by simpa using ih.1, fun i d e => ?_⟩
    by_cases hi : v = i
    · subst hi
      by_cases hl : v < (wipeR ρ vs).length
      · rw [List.getElem?_set_self hl] at e; cases e
      · rw [List.getElem?_eq_none (by simpa using hl)] at e; cases e
    · rw [List.getElem?_set_ne hi] at e ⊢
      exact ih.2 i d e
theorem wipe_wipe (σ : St) (vs : List Nat) : L2.wipe (L2.wipe σ vs) vs = L2.wipe σ vs := by
  have key : ∀ ws : List Nat, (∀ w ∈ ws, w ∈ vs) → L2.wipe (L2.wipe σ ws) vs = L2.wipe σ vs := fun ws => by
    induction ws with
    | nil => intro _; rfl
    | cons w ws ih =>
      intro h
      show L2.wipe ((L2.wipe σ ws).set w none) vs = _
      rw [wipe_set (h w (List.mem_cons_self ..)), ih fun x hx => h x (List.mem_cons_of_mem _ hx)]
  exact key vs fun _ h => h

/-! ### the turns -/
def lcS (src : Src) (t : Tg) (mt : Rho → Store → R Bool) (me : Rho → Store → R D) (ρ : Rho) : Nat → Nat → Store → List D → Option (List D × Store)
  | 0, i, st, acc => match src st i with
    | some none => some (acc, st)
    | _ => none
  | k + 1, i, st, acc => match src st i with
    | none => none
    | some none => some (acc, st)
    | some (some d) => match tset t d ρ with
      | none => none
      | some ρ1 => match mt ρ1 st with
        | .ok b s1 => if b = true then (match me ρ1 s1 with
            | .ok y s2 => if small acc.length = true then lcS src t mt me ρ k (i + 1) s2 (acc ++ [y]) else none
            | _ => none) else lcS src t mt me ρ k (i + 1) s1 acc
        | _ => none
@[reducible] def ofL (r : Option (List D × Store)) : R (List D) := match r with
  | some (ds, st) => .ok ds st
  | none => .bad
def mLC (ms : Rho → Store → R (Src × Nat)) (t : Tg) (mt : Rho → Store → R Bool) (me : Rho → Store → R D) (vs : List Nat) : Rho → Store → R (List D) := fun ρ st => (ms ρ st).bind fun p s => ofL (lcS p.1 t mt me (wipeR ρ vs) p.2 0 s [])
def mYes : Rho → Store → R Bool := fun _ st => .ok true st
abbrev E0 : XK := fun _ _ _ => False
theorem lcS_ok {K : PySem.W.Frag} {J : It} {src : Src} {t : Tg} {mt : Rho → Store → R Bool} {me : Rho → Store → R D} {vs : List Nat} {ρ : Rho} {σ : St} {π1 : List Addr} {H1 : Hp} {st1 : Store} {n : Nat} {ds : List D} {stF : Store} {D : Addr} {Q : VK}
    (ho : ∀ i ∈ t.own, i ∈ vs) (he : RelEnv K π1 H1 ρ σ) (hr : RelSt K π1 H1 st1) (hJ : ItSrc K J src π1 H1) (hD : H1 D = none) (e : lcS src t mt me (wipeR ρ vs) n 0 st1 [] = some (ds, stF))
    (hf : ∀ π' H', Keep π1 H1 π' H' → RelSt K π' H' stF → ∀ ws, D ∉ π' → H' D = some (.lst ws) → Rvs K π' H' ds ws → Q (.ref D) H') :
    ∃ W : Nat → Nat → Hp → Prop, (∃ m, W 0 m (upd H1 D (.lst []))) ∧ ∀ i m H, W i m H →
      (J.stop i H ∧ Q (.ref D) H) ∨ (J.go i H ∧ ∃ Nx : Hp → Prop, (∀ H', Nx H' → ∃ m', m' < m ∧ W (i + 1) m' H') ∧ ∀ x H', J.yld i H x H' → rG K t x (wipe σ vs) H' fun σ2 H2 => wipe σ2 vs = wipe σ vs ∧ LT K E0 mt σ2 H2 fun b H3 =>
        if b = true then LE K E0 me σ2 H3 fun y H4 => ∃ acc, H4 D = some (.lst acc) ∧ acc.length < sizeLine ∧ Nx (upd H4 D (.lst (acc ++ [y]))) else Nx H3) := by
  refine ⟨fun i m H => ∃ π st acc ws, Keep π1 H1 π H ∧ D ∉ π ∧ H D = some (.lst ws) ∧ RelSt K π H st ∧ Rvs K π H acc ws ∧ lcS src t mt me (wipeR ρ vs) m i st acc = some (ds, stF),
    ⟨n, π1, st1, [], [], keep_new hr hD, hr.none_out hD, upd_same, hr.new hD, rfl, e⟩, ?_⟩
  rintro i m H ⟨π, st, acc, ws, k, nD, hHD, r, hv, e⟩
  have hs : match src st i with
    | some (some d) => J.go i H ∧ ∀ x H', J.yld i H x H' → Keep π H π H' ∧ RelSt K π H' st ∧ Rv K π H' d x
    | some none => J.stop i H
    | none => True := hJ π H st i k r
  have stop : src st i = some none → lcS src t mt me (wipeR ρ vs) m i st acc = some (acc, st) := fun q => by
    cases m with
    | zero => unfold lcS; rw [q]
    | succ m => unfold lcS; rw [q]
  cases q : src st i with
  | none =>
    cases m with
    | zero => unfold lcS at e; rw [q] at e; cases e
    | succ m => unfold lcS at e; rw [q] at e; cases e
  | some o =>
    cases o with
    | none =>
      rw [stop q] at e
      cases e
      rw [q] at hs
      exact .inl ⟨hs, hf π H k r ws nD hHD hv⟩
    | some d =>
      cases m with
      | zero => unfold lcS at e; rw [q] at e; cases e
      | succ m =>
        unfold lcS at e
        rw [q] at e hs
        dsimp only at e
        obtain ⟨hgo, hy⟩ := hs
        refine .inr ⟨hgo, fun H' => ∃ π st acc ws, Keep π1 H1 π H' ∧ D ∉ π ∧ H' D = some (.lst ws) ∧ RelSt K π H' st ∧ Rvs K π H' acc ws ∧ lcS src t mt me (wipeR ρ vs) m (i + 1) st acc = some (ds, stF), fun H' w => ⟨m, Nat.lt_succ_self m, w⟩, fun x H2 y => ?_⟩
        obtain ⟨ky, ry, vy⟩ := hy x H2 y
        cases et : tset t d (wipeR ρ vs) with
        | none => rw [et] at e; cases e
        | some ρ1 =>
        rw [et] at e
        dsimp only at e
        obtain ⟨hD2, nD2⟩ := ky.old D _ hHD nD
        refine rG_ok t ho vy ((RelEnv.keep hr (k.trans ky) he).wipe vs) et fun σ2 he2 w2 => ⟨w2.trans (wipe_wipe σ vs), π, ρ1, st, he2, ry, ?_⟩
        cases em : mt ρ1 st with
        | bad => rw [em] at e; cases e
        | exn c d s => rw [em] at e; cases e
        | ok b s1 =>
        rw [em] at e
        dsimp only at e
        intro π3 H3 k3 r3
        obtain ⟨hD3, nD3⟩ := k3.old D _ hD2 nD2
        have kk3 := (k.trans ky).trans k3
        have hv3 := Rvs.keep ry k3 acc (Rvs.keep r ky acc hv)
        cases b with
        | false =>
          rw [if_neg Bool.false_ne_true] at e ⊢
          exact ⟨π3, s1, acc, ws, kk3, nD3, hD3, r3, hv3, e⟩
        | true =>
          rw [if_pos rfl] at e ⊢
          refine ⟨π3, ρ1, s1, RelEnv.keep ry k3 he2, r3, ?_⟩
          cases ee : me ρ1 s1 with
          | bad => rw [ee] at e; cases e
          | exn c d s => rw [ee] at e; cases e
          | ok y s2 =>
          rw [ee] at e
          dsimp only at e
          intro π4 H4 k4 r4 v hv4
          obtain ⟨hD4, nD4⟩ := k4.old D _ hD3 nD3
          split at e
          · rename_i hsm
            have hva := Rvs.keep r3 k4 acc hv3
            refine ⟨ws, hD4, by rw [← hva.length]; exact small_lt hsm, π4, s2, acc ++ [y], ws ++ [v], (kk3.trans k4).over hD, nD4, upd_same, r4.chg hD4 nD4, ?_, e⟩
            exact (Rvs.chg hD4 acc hva).append (Rvs.one (Rv.chg hD4 y hv4))
          · cases e
section
variable {X : Cx} {E : XK} {elt tg iter : Expr} {ifs : List Expr} {scope : Scope} {own : List (Str × Nat)} {pos : Pos} {ms : Rho → Store → R (Src × Nat)} {t : Tg} {mt : Rho → Store → R Bool} {me : Rho → Store → R D}
theorem PTs.imp {X : Cx} {ifs : List Expr} {t t' : TT} (h : PTs X ifs t) (hi : ∀ σ H Q, t' σ H Q → t σ H Q) : PTs X ifs t' := ⟨fun pins s σ H Q I q => h.run pins s σ H Q I (hi _ _ _ q)⟩
abbrev QTs (X : Cx) (ifs : List Expr) (m : Rho → Store → R Bool) : Prop := PTs X ifs (LT X.K E0 m)
theorem qts_nil : QTs X [] mYes := PTs.imp pts_nil fun σ H Q h => by
  obtain ⟨π, ρ, st, he, hr, h⟩ := h
  exact FinR.ok hr h
theorem qts_one {c : Expr} {m : Rho → Store → R Bool} (h : QT X E0 c m) : QTs X [c] m := pts_one h
theorem lc_lift {K : PySem.W.Frag} {vs : List Nat} {σ : St} {H : Hp} {Q : VK} (ho : ∀ i ∈ t.own, i ∈ vs) (h : LL K E (mLC ms t mt me vs) σ H Q) : tLc (LI K E ms) (rG K t) (LT K E0 mt) (LE K E0 me) vs σ H Q := by
  obtain ⟨π, ρ, st, he, hr, h⟩ := h
  refine ⟨π, ρ, st, he, hr, FinR.mono h.bindE fun p π1 H1 st1 k1 r1 hf J hJ D hD => ?_⟩
  cases e : lcS p.1 t mt me (wipeR ρ vs) p.2 0 st1 [] with
  | none => rw [e] at hf; exact hf.elim
  | some w =>
    obtain ⟨ds, stF⟩ := w
    rw [e] at hf
    exact lcS_ok ho (RelEnv.keep hr k1 he) r1 hJ hD e fun π' H' k' r' ws nD hHD hv => hf π' H' k' r' D ws (k1.fresh hr r1 hD) nD hHD hv
def subB (a b : List Nat) : Bool := a.all fun i => b.contains i
theorem subB_ok {a b : List Nat} (h : subB a b = true) : ∀ i ∈ a, i ∈ b := fun i hi => by
  have := List.all_eq_true.mp h i hi
  simpa using this
theorem ql_lc (hc : X.calm = true) (hN : X.N.Nodup) (hi : QI X E tg iter ms) (ok : blkC X.N X.env.scope scope own = true) (ho : subB t.own (own.map (·.2)) = true)
    (hg : ∀ (s : Shared) (H : Hp) (C : Addr) (cl : List (Str × Addr)) (fp : List Addr), PG (X.blk s H scope (compEnvC scope cl C X.env) fp) tg (rG X.K t))
    (ht : ∀ (s : Shared) (H : Hp) (C : Addr) (cl : List (Str × Addr)) (fp : List Addr), QTs (X.blk s H scope (compEnvC scope cl C X.env) fp) ifs mt)
    (he : ∀ (s : Shared) (H : Hp) (C : Addr) (cl : List (Str × Addr)) (fp : List Addr), QE (X.blk s H scope (compEnvC scope cl C X.env) fp) E0 elt me) (hs : ∀ x, foldedSetIterable iter X.env x = pure x := by intro _; rfl) :
    QL X E (.ListComp elt [⟨tg, iter, ifs, 0⟩] scope pos) (mLC ms t mt me (own.map (·.2))) := PE.imp (pe_lc hc hN hi (blkOk_by ok) hg ht he hs) fun _ _ _ h => lc_lift (subB_ok ho) h
end
end RQ

/-! SX: the program's own errors: made (super().__init__(value); self.value = value), told apart, read. -/
namespace RQX
open PySem PySem.W PySem.Calls PyProof.Rows PySem.HandSPX
/-- the text of __init__ -/
def iA (n : Nat) : Arguments := { posonlyargs := [], args := [{ arg := "self", annotation := none, pos := ⟨n, 17, n, 21⟩ }, { arg := "value", annotation := none, pos := ⟨n, 23, n, 28⟩ }], vararg := none, kwonlyargs := [], kw_defaults := [], kwarg := none, defaults := [] }
def iB (n : Nat) : List Stmt := [.Expr (.Call (.Attribute (.Call (.Name "super" ⟨n + 1, 8, n + 1, 13⟩) [] [] ⟨n + 1, 8, n + 1, 15⟩) "__init__" ⟨n + 1, 8, n + 1, 24⟩) [.Name "value" ⟨n + 1, 25, n + 1, 30⟩] [] ⟨n + 1, 8, n + 1, 31⟩) ⟨n + 1, 8, n + 1, 31⟩,
  .Assign [.Attribute (.Name "self" ⟨n + 2, 8, n + 2, 12⟩) "value" ⟨n + 2, 8, n + 2, 18⟩] (.Name "value" ⟨n + 2, 21, n + 2, 26⟩) ⟨n + 2, 8, n + 2, 26⟩]
def iS : Scope := { kind := .function, names := [(PySem.Str.ofString "self", .local), (PySem.Str.ofString "value", .local), (PySem.Str.ofString "__class__", .free), (PySem.Str.ofString "super", .globalImplicit)], isGenerator := false, isCoroutine := false, more := [] }
/-- what the written part says of the root class, at D, of its __init__, at fI -/
structure QTxt (prog : Program) (K : Frag) (D fI : Addr) : Prop where
  fn : ∃ (oc : Value) (od : Option Addr) (doc pm : Value) (an : Option Addr) (cda : Addr) (ct : Value) (osl : Array (Option Value)) (cc : Addr) (scope : Scope) (params : Arguments) (body : List Stmt) (n : Nat)
      (ccl : Value) (cdd : Option Addr) (vs : Array Value) (ccs : Array (Option Value)) (file : Str) (tf : Tok) (cl : Value) (cld : Option Addr) (csl : Array (Option Value)),
    (n = 4 ∨ n = 7) ∧ params = iA n ∧ body = iB n ∧ scope = iS ∧
    K.lookup fI = some ⟨oc, od, .func (ksFn "__init__" "QueueError.__init__" params body scope .none .none doc pm an (.ref cda) ct cc), osl⟩ ∧ codeIn K (.ref cda) "QueueError.__init__" = true ∧
    K.lookup cda = some ⟨ccl, cdd, .fields vs, ccs⟩ ∧ vs[2]? = some (.str file tf) ∧ ((prog.main.file : Str) == file) = true ∧ K.lookup cc = some ⟨cl, cld, .cell (some (.ref D)), csl⟩
  cls : ∃ cdD, clsIn K D = some cdD
  top : (prog.main.scope.names.lookup ("super" : Str)).isSome = false
  tC : typeIn K (.ref fI) = some (.type "function")
  opq : nsIn K cStatics "thirdparty.any" = some none
/-- .. of the class at C -/
structure QCls (K : Frag) (D fI C : Addr) : Prop where
  cls : ∃ nm q N bs bm sn sub ab col dd k0 k1 k2 k3 k5, K.lookup C = some (excClassObj nm q C N bs bm true sn sub ab col dd k0 k1 k2 k3 k5 "ValueError.__new__") ∧ refsVE bm = true
  sa : findIn K (.ref C) "__setattr__" = some (some (.builtin "object.__setattr__"))
  noN : findIn K (.ref C) "value" = some none
  iC : findIn K (.ref C) "__init__" = some (some (.ref fI))
  kC : keepIn K (.ref C) = true
  exC : subIn K (.ref C) (.type "BaseException") = some true
  veC : subIn K (.ref C) (.type "ValueError") = some true
  tyC : typeIn K (.ref C) = some (.type "type")
  mro : mroIn K C (.ref D) = some true
  sup : ks_superIn K C D "__init__" = some (some (.builtin "ValueError.__init__"))
/-- what __init__ leaves of a fresh exception at x -/
structure InitEnd (h h' : Heap) (x C dx t1 : Addr) (v : Value) : Prop where
  keep : ∀ b o, b ≠ x → h.get? b = some o → h'.get? b = some o
  obj : h'.get? x = some { cls := .ref C, dict := some dx, data := .fields #[.ref t1, .none, .none, .none, .bool false, .none] }
  dbig : h.objs.size ≤ dx
  dne : dx ≠ x
  ns : h'.Ns1 dx (fun y => if y = "value" then some v else none)
/-- a made one -/
structure OwnMade (h h' : Heap) (e C d : Addr) (v : Value) : Prop where
  keep : ∀ b o, h.get? b = some o → h'.get? b = some o
  new : h.objs.size ≤ e
  obj : ∃ t1 : Addr, h'.get? e = some { cls := .ref C, dict := some d, data := .fields #[.ref t1, .none, .none, .none, .bool false, .none] }
  dbig : h.objs.size ≤ d
  dne : d ≠ e
  ns : h'.Ns1 d (fun y => if y = "value" then some v else none)
theorem one_size (v : Value) : [v].length ≤ sizeLine := by
  rw [sizeLine_eq]
  exact (by decide : 1 ≤ 16777216)
theorem iS_cell : ∀ x ∈ iS.names, x.2 ≠ .cell := by decide
theorem iS_loc (a b : Value) : ∀ x ∈ ([("self", a), ("value", b)] : List (Str × Value)), iS.names.lookup x.1 = some .local := fun x hx => by
  rcases List.mem_cons.mp hx with rfl | hx
  · rfl
  rcases List.mem_cons.mp hx with rfl | hx
  · rfl
  · cases hx
section
variable {prog : Program} {w : World} {A : Around} {E : Value → Shared → Prop} {R : Result → Shared → Prop} {s : Shared} {K : Frag} {mg mb : Str → Option Value} {D C fI : Addr}
/-- super().__init__(..), the wrapper at u -/
theorem mw_call {hp : Heap} {g : Array GenState} {d : Drawn} {t : Nat} {os : OsState} {u e t0 : Addr} {rest : List Value} {Q : Value → Shared → Prop}
    {nm q : Str} {N : Addr} {bs bm : List Value} {hdct : Bool} {sn : List Str} {sub : List Value} {ab : Bool} {col : Option Bool} {dd : Option Addr} {k0 k1 k2 k3 k5 : Option Value}
    (hC : hp.get? C = some (excClassObj nm q C N bs bm hdct sn sub ab col dd k0 k1 k2 k3 k5 "ValueError.__new__")) (he : hp.get? e = some (excO C t0)) (hu : hp.get? u = some (kxs_mw "ValueError.__init__" e)) (hrest : rest.length ≤ sizeLine)
    (hq : ∀ h' t1, (∀ b o, b ≠ e → hp.get? b = some o → h'.get? b = some o) → h'.get? e = some (excO C t1) → Q .none ⟨h', g, d, t, os⟩) :
    wpAny (model prog w) A (call (.ref u) rest) Q E ⟨hp, g, d, t, os⟩ := by
  refine wpAny_call (codeAny_of_tree ?_)
  show wpAny _ A.in1 (callAny (.ref u) ⟨rest, []⟩) _ _ _
  simp only [callAny]
  refine wpAny_bind (wpAny_load hu ?_)
  simp only [kxs_mw, show (Value.type "method-wrapper" == Value.type "method" || Value.type "method-wrapper" == Value.type "builtin_function_or_method" || Value.type "method-wrapper" == Value.type "method-wrapper") = true by decide, if_true]
  refine KFB.if_so (by decide) ?_
  refine wpAny_bind (check_bound_init PySem.F.excBase_ValueError.toExcCallFacts hC he rfl ?_)
  refine wpAny_bind (wpAny_pure (wpAny_pure ?_))
  refine ⟨plainId_quiet PySem.F.excBase_ValueError.init.plain _, codeAny_builtin PySem.F.excBase_ValueError.initEntry ?_⟩
  exact exc_init_tree (cls := .ref C) (t0 := t0) (dv := none) (c2 := .none) (c3 := .none) (b4 := .bool false) he hrest fun h' k e' t' => hq h' _ k e'
theorem q_init (T : QTxt prog K D fI) (TC : QCls K D fI C) {x t0 : Addr} {v : Value} (X : K.In s.heap) (hlim : s.heap.NoLimit) (hgl : s.heap.Ns mainGlobals mg) (hmg : mg "super" = none) (hbl : s.heap.Ns builtinsNs mb) (hmb : mb "super" = some (.type "super"))
    (hx : s.heap.get? x = some (excO C t0)) (hnx : K.lookup x = none) (hroom : A.depth < recursionLimit)
    (hq : ∀ h' tk dx t1, InitEnd s.heap h' x C dx t1 v → R (.ok (.ret .none)) { s with heap := h', toks := tk }) :
    codeAny (model prog w) A (.call (.ref fI) ⟨[.ref x, v], []⟩) R s := by
  obtain ⟨oc, od, doc, pm, an, cda, ct, osl, cc, scope, params, body, n, ccl, cdd, vs, ccs, file, tf, cl, cld, csl, hn, rfl, rfl, rfl, ho, hcd, hcode, hvs, hfile, hcell⟩ := T.fn
  obtain ⟨nm, q, N, bs, bm, sn, sub, ab, col, dd, k0, k1, k2, k3, k5, hC, hbm⟩ := TC.cls
  obtain ⟨cdD, hD⟩ := T.cls
  have hcl : clsIn K C = some { name := nm, bases := bs, mro := .ref C :: bm, ns := N, qualname := q, hasDict := true, slotNames := sn, subclasses := sub, abstract := ab, collection := col, hasDel := false } := by unfold clsIn; rw [hC] <;> rfl
  obtain ⟨hh, g, d, tk, os⟩ := s
  rcases hn with rfl | rfl
  all_goals
    refine ks_codeAny_call_defAt (fd := ksFn "__init__" "QueueError.__init__" (iA _) (iB _) iS .none .none doc pm an (.ref cda) ct cc) (body := iB _) (binds := [("self", .ref x), ("value", v)])
      hroom (X _ _ ho) rfl hlim (codeRec_of X hcd) rfl (BindsTo.of_eq (by first | rfl | with_unfolding_all rfl)) iS_cell (iS_loc _ _) (fun h₁ hns k => ?_) rfl rfl rfl
    generalize hA : A.deeper (callEnv (ksFn "__init__" "QueueError.__init__" (iA _) (iB _) iS .none .none doc pm an (.ref cda) ct cc) hh.objs.size fI) = A1
    have X₁ : K.In h₁ := X.keeps k
    have hx₁ := k _ _ hx
    have hxL : hh.objs.size ≠ x := Nat.ne_of_gt (Heap.lt_size hx)
    have hns : h₁.Ns hh.objs.size (fun y => ([("self", Value.ref x), ("value", v)] : List (Str × Value)).reverse.lookup y) := hns
    -- super().__init__(value)
    refine ks_wpAt_execs_cons (ks_wpAt_Expr_any (ks_wpAt_MethodCall ?_))
    refine ks_wpAt_super_base (by first | rfl | decide) (by first | rfl | decide) (by decide) rfl (X₁ _ _ ho) rfl rfl rfl (X₁ _ _ hcode) rfl hvs hfile T.top ?_
    refine ks_loadName_global rfl (by first | rfl | decide) (loadGlobal_builtin (hgl.keeps k) hmg (hbl.keeps k) hmb ⟨rfl, ?_⟩)
    refine wpAny_loadName_free rfl (by first | rfl | decide) rfl ⟨_, X₁ _ _ hcell, rfl⟩ ?_
    refine wpAny_loadName_local (v := .ref x) rfl (by first | rfl | decide) hns (by first | rfl | with_unfolding_all rfl | kernel_rfl) ?_
    obtain ⟨oD, hD1, hD2⟩ : ∃ oD, h₁.get? D = some oD ∧ oD.data = .cls cdD := by
      unfold clsIn at hD
      split at hD
      · rename_i c d cd' sl ho
        cases hD
        exact ⟨_, X₁ _ _ ho, rfl⟩
      · cases hD
    refine ks_wpAny_isType_cls hD1 hD2 ⟨rfl, ?_⟩
    refine ks_wpAny_call_super hD1 hD2 hx₁ rfl (fun c e => by cases e) (looks_mroIn X₁ TC.mro) (fun h₂ e₂ k₂ => ?_)
    have X₂ : K.In h₂ := fun a o e => k₂ _ _ (X₁ a o e)
    have hx₂ := k₂ _ _ hx₁
    have hns₂ : h₂.Ns hh.objs.size (fun y => ([("self", Value.ref x), ("value", v)] : List (Str × Value)).reverse.lookup y) := hns.keeps k₂
    have I₂ : InstAt h₂ x (excO C t0) C none := ⟨hx₂, rfl, rfl, trivial⟩
    have hI : Looks (model prog w) h₂ (isInstance (.ref x) (.type "ValueError")) true := I₂.type.andThen (looks_subIn X₂ TC.veC)
    have hm := TC.sup
    unfold ks_superIn at hm
    rw [hcl] at hm
    refine kxs_getMethod kxs_ValueError e₂ (looks_opaque X₂ T.opq) (l₀ := .ref C :: bm) (fun A Q E s k q => wpAny_bind ((looks_clsIn X₂ hcl) A _ E s k (wpAny_pure q))) rfl X₂ hm hI (ks_ne X₂ I₂ hcl) (by decide) ?_
    have hu : (h₂.push (kxs_mw "ValueError.__init__" x)).get? h₂.objs.size = some (kxs_mw "ValueError.__init__" x) := Heap.get?_push_size _ rfl
    have k₃ : ∀ b o, h₂.get? b = some o → (h₂.push (kxs_mw "ValueError.__init__" x)).get? b = some o := fun b o e => Heap.get?_push_of_some _ e
    generalize hq3 : h₂.objs.size = u at hu ⊢
    generalize hh3 : h₂.push (kxs_mw "ValueError.__init__" x) = h₃ at hu k₃ ⊢
    have hns₃ := hns₂.keeps k₃
    have X₃ : K.In h₃ := X₂.keeps k₃
    refine kxs_callWith (i := "ValueError.__init__") (x := x) rfl (evalArgs_plain (args_cons (wpAny_Name (wpAny_loadName_local (v := v) rfl (by first | rfl | decide) hns₃ (by first | rfl | with_unfolding_all rfl | kernel_rfl) (args_nil ?_)) (by decide)) rfl))
    refine ⟨hu, ?_⟩
    show wpAny _ _ (call (.ref u) [v]) _ _ _
    refine mw_call ((X₃ _ _ hC)) (k₃ _ _ hx₂) hu (one_size v) fun h₄ t1 k₄ e₄ => ?_
    have k04 : ∀ b o, b ≠ x → hh.get? b = some o → h₄.get? b = some o := fun b o hb e => k₄ b o hb (k₃ _ _ (k₂ _ _ (k _ _ e)))
    have X₄ : K.In h₄ := fun a o e => k04 a o (fun z => by rw [z, hnx] at e; cases e) (X a o e)
    obtain ⟨oL, es, ep, hL, rL⟩ := hns₃
    have hns₄ : h₄.Ns hh.objs.size (fun y => ([("self", Value.ref x), ("value", v)] : List (Str × Value)).reverse.lookup y) := ⟨oL, es, ep, k₄ _ _ hxL hL, rL⟩
    show _root_.PySem.wpAt _ _ _ (execs [.Assign [.Attribute (.Name "self" _) "value" _] (.Name "value" _) _] _) _ _ _
    refine ks_wpAt_execs_cons (ks_wpAt_Assign_Attr (wpAt_of_wpAny ?_))
    refine wpAny_Name (wpAny_loadName_local (v := v) rfl (by first | rfl | decide) hns₄ (by first | rfl | with_unfolding_all rfl | kernel_rfl) ?_) (by decide)
    refine wpAny_Name (wpAny_loadName_local (v := .ref x) rfl (by first | rfl | decide) hns₄ (by first | rfl | with_unfolding_all rfl | kernel_rfl) ?_) (by decide)
    refine set_plain X₄ (ox := excO C t1) (od := none) ⟨e₄, rfl, rfl, trivial⟩ TC.sa ?_
    refine exc_osa X₄ e₄ hcl (show refsVE (.ref C :: bm) = true from hbm) rfl TC.noN (fun h₅ tk₅ dx k₅ dn dne hx₅ hn₅ => ?_)
    refine wpAt_of_wpAny (wpAny_execs_nil ?_)
    have z : hh.objs.size < h₄.objs.size := hns₄.lt
    exact hq h₅ _ dx t1 ⟨fun b o hb e => k₅ b o hb (k04 b o hb e), hx₅, Nat.le_of_lt (Nat.lt_of_lt_of_le z dn), dne, hn₅⟩
/-- C(v) -/
theorem q_made (T : QTxt prog K D fI) (TC : QCls K D fI C) {v : Value} (X : K.In s.heap) (hlim : s.heap.NoLimit) (hgl : s.heap.Ns mainGlobals mg) (hmg : mg "super" = none) (hbl : s.heap.Ns builtinsNs mb) (hmb : mb "super" = some (.type "super")) (hroom : A.depth + 1 < recursionLimit)
    (hq : ∀ h' tk e d, OwnMade s.heap h' e C d v → R (.ok (.ret (.ref e))) { s with heap := h', toks := tk }) :
    codeAny (model prog w) A (.call (.ref C) ⟨[v], []⟩) R s := by
  obtain ⟨nm, q, N, bs, bm, sn, sub, ab, col, dd, k0, k1, k2, k3, k5, hC, hbm⟩ := TC.cls
  obtain ⟨hp, g, dr, tk, os⟩ := s
  have k : ∀ b o, hp.get? b = some o → ((hp.push (kdv_tup [v])).push (excO C hp.objs.size)).get? b = some o := fun b o e => Heap.get?_push_of_some _ (Heap.get?_push_of_some _ e)
  have hget : ((hp.push (kdv_tup [v])).push (excO C hp.objs.size)).get? (hp.objs.size + 1) = some (excO C hp.objs.size) := by heap_get
  have hnx : K.lookup (hp.objs.size + 1) = none := by
    cases e : K.lookup (hp.objs.size + 1) with
    | none => rfl
    | some o =>
      have z : hp.get? (hp.objs.size + 1) = some o := X _ _ e
      exact absurd (Nat.lt_of_succ_lt (Heap.lt_size z)) (Nat.lt_irrefl _)
  refine call_own PySem.F.excBase_ValueError (fun X => refsVE_contains X bm hbm) (X _ _ hC) (looks_findIn X TC.iC) (fun self => bind_fn X self T.tC) (one_size v) ?_
  refine q_init (s := ⟨(hp.push (kdv_tup [v])).push (excO C hp.objs.size), g, dr, tk, os⟩) T TC (X.keeps k) (hlim.keeps k) (hgl.keeps k) hmg (hbl.keeps k) hmb hget hnx ?_ fun h' tk' dx t1 ⟨k', hx, dn, dne, hns⟩ => ?_
  · show A.depth + 1 < recursionLimit
    exact hroom
  · have old : ∀ b o, hp.get? b = some o → h'.get? b = some o := fun b o e => k' b o (Nat.ne_of_lt (Nat.lt_succ_of_lt (Heap.lt_size e))) (k b o e)
    have z : hp.objs.size + 1 + 1 ≤ dx := by
      first
        | (simpa only [Heap.size_push] using dn)
        | exact dn
        | (have q := dn; rw [Heap.size_push, Heap.size_push] at q; exact q)
    exact ⟨rfl, hq h' tk' (hp.objs.size + 1) dx ⟨old, Nat.le_succ _, ⟨_, hx⟩, Nat.le_trans (Nat.le_trans (Nat.le_succ _) (Nat.le_succ _)) z, dne, hns⟩⟩
end
end RQX

/-! S8: methods of lists; errors as values. -/
namespace RQ
open PySem L2 RZ

/-! ### methods by values -/
/-- is of the built-in type -/
def tyD (T : String) (d : D) (st : Store) : Bool := match d with
  | .str _ => decide (T = "str")
  | .scr _ => decide (T = "list")
  | .ref n => (match st[n]? with
    | some (.lst _) => decide (T = "list")
    | some (.dic _ _) => decide (T = "dict")
    | _ => false)
  | _ => false
def mM (T : String) (f : D → List D → Store → B) (m : Rho → Store → R D) (ms : Rho → Store → R (List D)) : Rho → Store → R D := fun ρ st =>
  (m ρ st).bind fun d s1 => if tyD T d s1 = true then (ms ρ s1).bind fun ds s2 => ofB (f d ds s2) else .bad
def mM0 (T : String) (f : D → List D → Store → B) (m : Rho → Store → R D) : Rho → Store → R D := fun ρ st =>
  (m ρ st).bind fun d s1 => if tyD T d s1 = true then ofB (f d [] s1) else .bad
def rOfM (K : PySem.W.Frag) (f : D → List D → Store → B) : V → List V → Hp → VK → Prop := fun x xs H Q => ∃ π st d ds, RelSt K π H st ∧ Rv K π H d x ∧ Rvs K π H ds xs ∧ FinB K π H (f d ds st) Q
section
variable {X : Cx} {E : XK} {o e : Expr} {es : List Expr} {m : Rho → Store → R D} {ms : Rho → Store → R (List D)} {f : D → List D → Store → B} {name : Str} {apos cpos : Pos} {T id : String}
theorem tyD_ok {K : PySem.W.Frag} {π : List Addr} {H : Hp} {st : Store} {d : D} {v : V} (hr : RelSt K π H st) (hv : Rv K π H d v) (h : tyD T d st = true) : tyV K T v H := by
  unfold tyD at h
  split at h
  · have hT : T = "str" := of_decide_eq_true h
    rw [show v = .str _ from hv]; exact hT
  · obtain ⟨a, rfl, q⟩ := hv
    exact .inl ⟨of_decide_eq_true h, _, q.sq⟩
  · split at h
    · rename_i n _ l e
      obtain ⟨a, vs, _, rfl, ha, _⟩ := Rv.ref_lst hr hv e
      exact .inl ⟨of_decide_eq_true h, _, SqL.of ha⟩
    · rename_i n _ t l e
      obtain ⟨a, u, _, rfl, ha, hd⟩ := Rv.ref_dic hr hv e
      refine .inr (.inr (.inl ⟨of_decide_eq_true h, ?_⟩))
      cases t
      · obtain ⟨kv, rfl, _⟩ := hd; exact .inl ⟨kv, ha⟩
      · obtain ⟨kv, rfl, _⟩ := hd; exact .inr ⟨kv, ha⟩
    · cases h
  · cases h
theorem qe_meth (pa : PlainAttrs T) (slot : Slot T name id) (hty : typeOf (.builtin id) = pure (.type "method_descriptor")) (hm : MtR X id (rOfM X.K f)) (ho : QE X E o m) (ha : QA X E (e :: es) ms)
    (hbase : attributeBase o name X.env (eval o X.env) = eval o X.env := by rfl)
    (hfew : ((backTo cpos (starEach (e :: es) X.env)).all (fun x => !x.1) && (backToKw cpos (keywordEach [] X.env)).all (fun x => x.1.isSome)
      && decide ((e :: es).length + ([] : List Keyword).length + (if ([] : List Keyword).isEmpty then 0 else 1) < 30)) = true := by rfl)
    (hline : (apos.endLine == cpos.line) = true := by rfl) (hs : starEach (e :: es) X.env = (false, eval e X.env) :: starEach es X.env := by rfl) (hplain : (backTo cpos (starEach es X.env)).any (·.1) = false := by rfl) :
    QE X E (.Call (.Attribute o name apos) (e :: es) [] cpos) (mM T f m ms) := PE.imp (pe_bm pa slot hty hm ho ha hbase hfew hline hs hplain) fun σ H Q h => by
  obtain ⟨π, ρ, st, he, hr, h⟩ := h
  refine ⟨π, ρ, st, he, hr, FinR.mono h.bindE fun d π1 H1 st1 k1 r1 hf v hv => ?_⟩
  by_cases ht : tyD T d st1 = true
  · rw [if_pos ht] at hf
    refine ⟨tyD_ok r1 hv ht, π1, ρ, st1, RelEnv.keep hr k1 he, r1, FinR.mono hf.bindE fun ds π2 H2 st2 k2 r2 hf2 vs hvs => ?_⟩
    exact ⟨π2, st2, d, ds, r2, Rv.keep r1 k2 d hv, hvs, finB_of hf2⟩
  · rw [if_neg ht] at hf
    exact hf.elim
theorem qe_meth0 (pa : PlainAttrs T) (slot : Slot T name id) (hty : typeOf (.builtin id) = pure (.type "method_descriptor")) (hm : MtR X id (rOfM X.K f)) (ho : QE X E o m)
    (hbase : attributeBase o name X.env (eval o X.env) = eval o X.env := by rfl) (hline : (apos.endLine == cpos.line) = true := by rfl) :
    QE X E (.Call (.Attribute o name apos) [] [] cpos) (mM0 T f m) := PE.imp (pe_bm0 pa slot hty hm ho hbase hline) fun σ H Q h => by
  obtain ⟨π, ρ, st, he, hr, h⟩ := h
  refine ⟨π, ρ, st, he, hr, FinR.mono h.bindE fun d π1 H1 st1 k1 r1 hf v hv => ?_⟩
  by_cases ht : tyD T d st1 = true
  · rw [if_pos ht] at hf
    exact ⟨tyD_ok r1 hv ht, π1, st1, d, [], r1, hv, rfl, finB_of hf⟩
  · rw [if_neg ht] at hf
    exact hf.elim
end
/-! ### list methods -/
/-- a list's cell -/
def lstAt (d : D) (st : Store) : Option (Nat × List D) := match d with
  | .ref n => (match st[n]? with
    | some (.lst l) => some (n, l)
    | _ => none)
  | _ => none
def bApp : D → List D → Store → B := fun d ds st => match lstAt d st, ds with
  | some (n, l), [x] => if small l.length then some (.non, st.set n (.lst (l ++ [x]))) else none
  | _, _ => none
def bExt : D → List D → Store → B := fun d ds st => match lstAt d st, ds with
  | some (n, l), [x] => (match lstAt x st with
    | some (_, m) => if small (l.length + m.length) then some (.non, st.set n (.lst (l ++ m))) else none
    | none => none)
  | _, _ => none
def bPop : D → List D → Store → B := fun d ds st => match lstAt d st, ds with
  | some (n, l), [] => (match l[l.length - 1]? with
    | some x => some (x, st.set n (.lst l.dropLast))
    | none => none)
  | _, _ => none
def bPopAt : D → List D → Store → B := fun d ds st => match lstAt d st, ds with
  | some (n, l), [.int i] => if decide (-(2 ^ 63) ≤ i ∧ i < 2 ^ 63) then (match ixN l.length i with
    | some k => (match l[k]? with
      | some x => some (x, st.set n (.lst (l.eraseIdx k)))
      | none => none)
    | none => none) else none
  | _, _ => none
def bIns : D → List D → Store → B := fun d ds st => match lstAt d st, ds with
  | some (n, l), [.int i, x] => if decide (0 ≤ i ∧ i < 2 ^ 63) && small l.length then some (.non, st.set n (.lst (l.take i.toNat ++ [x] ++ l.drop i.toNat))) else none
  | _, _ => none
section
variable {K : PySem.W.Frag} {π : List Addr} {H : Hp} {st : Store}
theorem lstAt_ok (hr : RelSt K π H st) {d : D} {v : V} {n : Nat} {l : List D} (e : lstAt d st = some (n, l)) (h : Rv K π H d v) : ∃ a vs, π[n]? = some a ∧ v = .ref a ∧ H a = some (.lst vs) ∧ Rvs K π H l vs := by
  unfold lstAt at e
  split at e
  · split at e
    · rename_i l' e1
      cases e
      exact Rv.ref_lst hr h e1
    · cases e
  · cases e
theorem Rvs.dropLast {l : List D} {vs : List V} (h : Rvs K π H l vs) : Rvs K π H l.dropLast vs.dropLast := by
  rw [List.dropLast_eq_take, List.dropLast_eq_take, h.length]
  exact h.take _
theorem Rvs.erase {l : List D} {vs : List V} (h : Rvs K π H l vs) (k : Nat) : Rvs K π H (l.eraseIdx k) (vs.eraseIdx k) := by
  rw [List.eraseIdx_eq_take_drop_succ, List.eraseIdx_eq_take_drop_succ]
  exact (h.take k).append (h.drop (k + 1))
end
section
variable {X : Cx} {E : XK}
theorem ms_append : MtR X "list.append" (rOfM X.K bApp) := by
  intro pins s σ H x xs v us Q I rx rs h
  obtain ⟨π, st, d, ds, hr, hd, hds, h⟩ := h
  unfold bApp at h
  split at h
  · rename_i n l y e
    split at h
    · rename_i hs
      obtain ⟨a, vs, hn, rfl, ha, hv⟩ := lstAt_ok hr e hd
      obtain ⟨w, rfl, hw⟩ := hds.inv1
      refine mt_append pins s σ H _ _ v us Q I rx rs ⟨a, vs, w, rfl, rfl, ha, by rw [← hv.length]; exact small_lt hs, ?_⟩
      have kw := keep_write (H := H) (o := .lst (vs ++ [w])) hn
      exact h π _ kw (hr.write hn ⟨_, rfl, (Rvs.keep hr kw l hv).append (Rvs.one (Rv.keep hr kw y hw))⟩) .non rfl
    · exact h.elim
  · exact h.elim
theorem ms_extend : MtR X "list.extend" (rOfM X.K bExt) := by
  intro pins s σ H x xs v us Q I rx rs h
  obtain ⟨π, st, d, ds, hr, hd, hds, h⟩ := h
  unfold bExt at h
  split at h
  · rename_i n l y e
    split at h
    · rename_i j m e2
      split at h
      · rename_i hs
        obtain ⟨a, vs, hn, rfl, ha, hv⟩ := lstAt_ok hr e hd
        obtain ⟨w, rfl, hw⟩ := hds.inv1
        obtain ⟨b, ws, hn2, rfl, hb, hv2⟩ := lstAt_ok hr e2 hw
        refine mt_extend pins s σ H _ _ v us Q I rx rs ⟨a, b, vs, ws, rfl, rfl, ha, hb, by rw [← hv.length, ← hv2.length]; exact small_ok hs, ?_⟩
        have kw := keep_write (H := H) (o := .lst (vs ++ ws)) hn
        exact h π _ kw (hr.write hn ⟨_, rfl, (Rvs.keep hr kw l hv).append (Rvs.keep hr kw m hv2)⟩) .non rfl
      · exact h.elim
    · exact h.elim
  · exact h.elim
theorem ms_pop : MtR X "list.pop" (rOfM X.K bPop) := by
  intro pins s σ H x xs v us Q I rx rs h
  obtain ⟨π, st, d, ds, hr, hd, hds, h⟩ := h
  unfold bPop at h
  split at h
  · rename_i n l e
    split at h
    · rename_i y ey
      obtain ⟨a, vs, hn, rfl, ha, hv⟩ := lstAt_ok hr e hd
      obtain ⟨w, e1, e2⟩ := hv.get ey
      refine mt_pop pins s σ H _ _ v us Q I rx rs ⟨a, vs, w, rfl, hds, ha, by rw [← hv.length]; exact e1, ?_⟩
      have kw := keep_write (H := H) (o := .lst vs.dropLast) hn
      exact h π _ kw (hr.write hn ⟨_, rfl, (Rvs.keep hr kw l hv).dropLast⟩) w (Rv.keep hr kw y e2)
    · exact h.elim
  · exact h.elim
theorem ms_popAt : MtR X "list.pop" (rOfM X.K bPopAt) := by
  intro pins s σ H x xs v us Q I rx rs h
  obtain ⟨π, st, d, ds, hr, hd, hds, h⟩ := h
  unfold bPopAt at h
  split at h
  · rename_i n l i e
    split at h
    · rename_i hb
      obtain ⟨b1, b2⟩ := of_decide_eq_true hb
      split at h
      · rename_i k ek
        split at h
        · rename_i y ey
          obtain ⟨a, vs, hn, rfl, ha, hv⟩ := lstAt_ok hr e hd
          obtain ⟨w, e1, e2⟩ := hv.get ey
          obtain ⟨z, rfl, hz⟩ := hds.inv1
          refine mt_popAt pins s σ H _ _ v us Q I rx rs ⟨a, vs, i, k, w, rfl, by rw [show z = .int i from hz], ha, b1, b2, by rw [← hv.length]; exact (L2.ixN_seq ek).1, e1, ?_⟩
          have kw := keep_write (H := H) (o := .lst (vs.eraseIdx k)) hn
          exact h π _ kw (hr.write hn ⟨_, rfl, (Rvs.keep hr kw l hv).erase k⟩) w (Rv.keep hr kw y e2)
        · exact h.elim
      · exact h.elim
    · exact h.elim
  · exact h.elim
theorem ms_insert : MtR X "list.insert" (rOfM X.K bIns) := by
  intro pins s σ H x xs v us Q I rx rs h
  obtain ⟨π, st, d, ds, hr, hd, hds, h⟩ := h
  unfold bIns at h
  split at h
  · rename_i n l i y e
    split at h
    · rename_i hb
      obtain ⟨hb1, hs⟩ := Bool.and_eq_true_iff.mp hb
      obtain ⟨b1, b2⟩ := of_decide_eq_true hb1
      obtain ⟨a, vs, hn, rfl, ha, hv⟩ := lstAt_ok hr e hd
      obtain ⟨z, w, rfl, hz, hw⟩ := hds.inv2
      refine mt_insert pins s σ H _ _ v us Q I rx rs ⟨a, vs, i, w, rfl, by rw [show z = .int i from hz], ha, by rw [← hv.length]; exact small_lt hs, b1, b2, ?_⟩
      have kw := keep_write (H := H) (o := .lst (vs.take i.toNat ++ [w] ++ vs.drop i.toNat)) hn
      have hv' := Rvs.keep hr kw l hv
      exact h π _ kw (hr.write hn ⟨_, rfl, ((hv'.take _).append (Rvs.one (Rv.keep hr kw y hw))).append (hv'.drop _)⟩) .non rfl
    · exact h.elim
  · exact h.elim
end

/-! ### index, count of flat items -/
def bIndex : D → List D → Store → B := fun d ds st => match lstAt d st, ds with
  | some (_, l), [x] => if flatD x && l.all flatD then (l.findIdx? fun z => eqF z x).map fun j => (.int (j : Nat), st) else none
  | _, _ => none
def bCount : D → List D → Store → B := fun d ds st => match lstAt d st, ds with
  | some (_, l), [x] => if flatD x && l.all flatD then some (.int (l.countP fun z => eqF z x), st) else none
  | _, _ => none
section
variable {X : Cx} {E : XK}
theorem count_vals {y : V} {ys : List V} {its : List Value} (rv : Vals ys its) (f : ys.all flatV = true) : its.countP (eqU y) = ys.countP fun z => eqV z y := by
  induction rv with
  | nil => rfl
  | cons r t ih =>
    rename_i z u zs us
    have f' : (flatV z && zs.all flatV) = true := by simpa using f
    obtain ⟨f1, f2⟩ := Bool.and_eq_true_iff.mp f'
    rw [List.countP_cons, List.countP_cons, ih f2, eqU_of r f1]
theorem mt_countF : MtR X "list.count" (fun x xs H Q => ∃ (p : Addr) (ys : List V) (y : V), x = .ref p ∧ xs = [y] ∧ SqL X.K H p ys ∧ flatV y = true ∧ ys.all flatV = true ∧ Q (.int (ys.countP fun z => eqV z y : Nat)) H) := by
  intro pins s σ H x xs v us Q I rx rxs h
  obtain ⟨p, ys, y, rfl, rfl, hs, fy, fys, q⟩ := h
  cases rx
  cases rxs with
  | cons ry rt =>
    rename_i uy ut
    cases rt
    obtain ⟨its, rv, ⟨⟨cls, dd, data, sl⟩, n, ho, hc, hdn, hd⟩, hlen⟩ := I.list hs
    simp only at hc hd
    subst hc hd
    refine call_meets PySem.F.slot_list_count ⟨_, ho, rfl⟩ PySem.F.entry_list_count (PySem.F.args_list_count_2 _ _)
      (SeqAt.list_countAt p its.toArray n dd sl uy (eqU y)) ⟨ho, fun u' hu' => mem_eqAt ry fy rv fys u' (by simpa using hu'), ?_⟩
    have ec : its.toArray.toList.countP (eqU y) = ys.countP fun z => eqV z y := count_vals rv fys
    refine ⟨.int (ys.countP fun z => eqV z y : Nat), H, I.tok _, ⟨s.toks, ?_⟩, q⟩
    show Value.int ((its.toArray.toList.countP (eqU y) : Nat) : Int) s.toks = _
    rw [ec]
theorem ms_count : MtR X "list.count" (rOfM X.K bCount) := by
  intro pins s σ H x xs v us Q I rx rs h
  obtain ⟨π, st, d, ds, hr, hd, hds, h⟩ := h
  unfold bCount at h
  split at h
  · rename_i n l y e
    split at h
    · rename_i hf
      obtain ⟨f1, f2⟩ := Bool.and_eq_true_iff.mp hf
      obtain ⟨a, vs, hn, rfl, ha, hv⟩ := lstAt_ok hr e hd
      obtain ⟨w, rfl, hw⟩ := hds.inv1
      obtain ⟨e1, g1⟩ := flat_v f1 hw
      obtain ⟨e2, g2⟩ := flat_vs f2 hv
      refine mt_countF pins s σ H _ _ v us Q I rx rs ⟨a, vs, w, rfl, rfl, SqL.of ha, g1, g2, ?_⟩
      have z : (vs.countP fun z => eqV z w) = l.countP fun z => eqF z y := by
        rw [e1, e2, List.countP_map]
        rfl
      rw [z]
      exact FinB.some hr h rfl
    · exact h.elim
  · exact h.elim
theorem ms_index : MtR X "list.index" (rOfM X.K bIndex) := by
  intro pins s σ H x xs v us Q I rx rs h
  obtain ⟨π, st, d, ds, hr, hd, hds, h⟩ := h
  unfold bIndex at h
  split at h
  · rename_i n l y e
    split at h
    · rename_i hf
      obtain ⟨f1, f2⟩ := Bool.and_eq_true_iff.mp hf
      obtain ⟨a, vs, hn, rfl, ha, hv⟩ := lstAt_ok hr e hd
      obtain ⟨w, rfl, hw⟩ := hds.inv1
      obtain ⟨e1, g1⟩ := flat_v f1 hw
      obtain ⟨e2, g2⟩ := flat_vs f2 hv
      cases ej : l.findIdx? fun z => eqF z y with
      | none => rw [ej] at h; exact h.elim
      | some j =>
        rw [ej] at h
        rw [List.findIdx?_eq_some_iff_getElem] at ej
        obtain ⟨hl, h1, h2⟩ := ej
        have hl' : j < vs.length := by rw [← hv.length]; exact hl
        have ez : vs[j]? = some (vF l[j]) := by rw [e2, List.getElem?_map, List.getElem?_eq_getElem hl]; rfl
        refine mt_index pins s σ H _ _ v us Q I rx rs ⟨a, vs, w, j, vF l[j], rfl, rfl, SqL.of ha, g1, g2, ez, by rw [e1]; exact h1, fun m z' hm hz' => ?_, FinB.some hr h rfl⟩
        have hml : m < l.length := Nat.lt_trans hm hl
        rw [e2, List.getElem?_map, List.getElem?_eq_getElem hml] at hz'
        have hz'' : vF l[m] = z' := Option.some.inj hz'
        rw [← hz'', e1]
        have := h2 m hm
        simpa [eqF] using this
    · exact h.elim
  · exact h.elim
/-- xs.extend(a new list) -/
def mExtL (m : Rho → Store → R D) (ml : Rho → Store → R (List D)) : Rho → Store → R D := fun ρ st => (m ρ st).bind fun d s1 => if tyD "list" d s1 = true then (ml ρ s1).bind fun ds s2 => (match lstAt d s2 with
  | some (n, l) => if small (l.length + ds.length) then .ok .non (s2.set n (.lst (l ++ ds))) else .bad
  | none => .bad) else .bad
theorem qe_extL {o e : Expr} {m : Rho → Store → R D} {ml : Rho → Store → R (List D)} {apos cpos : Pos} (ho : QE X E o m) (ha : QL X E e ml)
    (hbase : attributeBase o "extend" X.env (eval o X.env) = eval o X.env := by rfl)
    (hfew : ((backTo cpos (starEach (e :: []) X.env)).all (fun x => !x.1) && (backToKw cpos (keywordEach [] X.env)).all (fun x => x.1.isSome)
      && decide ((e :: ([] : List Expr)).length + ([] : List Keyword).length + (if ([] : List Keyword).isEmpty then 0 else 1) < 30)) = true := by rfl)
    (hline : (apos.endLine == cpos.line) = true := by rfl) (hs : starEach (e :: []) X.env = (false, eval e X.env) :: starEach [] X.env := by rfl) (hplain : (backTo cpos (starEach [] X.env)).any (·.1) = false := by rfl) :
    QE X E (.Call (.Attribute o "extend" apos) [e] [] cpos) (mExtL m ml) := PE.imp (pe_bm PySem.F.plainAttrs_list PySem.F.slot_list_extend PySem.F.type_list_extend mt_extend ho (pa_cons ha pa_nil hs) hbase hfew hline hs hplain) fun σ H Q h => by
  obtain ⟨π, ρ, st, he, hr, h⟩ := h
  refine ⟨π, ρ, st, he, hr, FinR.mono h.bindE fun d π1 H1 st1 k1 r1 hf v hv => ?_⟩
  by_cases ht : tyD "list" d st1 = true
  · rw [if_pos ht] at hf
    refine ⟨tyD_ok r1 hv ht, π1, ρ, st1, RelEnv.keep hr k1 he, r1, FinR.mono hf.bindE fun ds π2 H2 st2 k2 r2 hf2 p ws hp np hpw hw => ?_⟩
    show rExtend v [.ref p] H2 Q
    split at hf2
    · rename_i n l e1
      split at hf2
      · rename_i hsm
        obtain ⟨a, vs, hn, rfl, ha2, hv2⟩ := lstAt_ok r2 e1 (Rv.keep r1 k2 d hv)
        refine ⟨a, p, vs, ws, rfl, rfl, ha2, hpw, by rw [← hv2.length, ← hw.length]; exact small_ok hsm, ?_⟩
        have kw := keep_write (H := H2) (o := .lst (vs ++ ws)) hn
        exact hf2 π2 _ kw (r2.write hn ⟨_, rfl, (Rvs.keep r2 kw l hv2).append (Rvs.keep r2 kw ds hw)⟩) .non rfl
      · exact hf2.elim
    · exact hf2.elim
  · rw [if_neg ht] at hf
    exact hf.elim
end
end RQ

/-! S9: errors as values, raised. -/
namespace RQ
open PySem L2 RZ

/-! ### what the written part says of the error classes -/
/-- of the class at C -/
structure ErrC (K : PySem.W.Frag) (D fI C : Addr) : Prop where
  q : RQX.QCls K D fI C
  xf : XfC K C
  ec : ExcC K C
/-- of all of them: fI the __init__ -/
structure ErrK (prog : Program) (K : PySem.W.Frag) (mg : Str → Option Value) (n : Nat) : Prop where
  txt : ∃ fI, RQX.QTxt prog K (cad K 0) fI ∧ ∀ c, c < n → ErrC K (cad K 0) fI (cad K c)
  mgc : ∀ c, c < n → mg (cname c) = some (.ref (cad K c))
  sup : mg "super" = none
  isi : ∀ c k, c < n → k < n → PySem.W.kitOne K (.ref (cad K c)) (.ref (cad K k)) = some (c == k || k == 0)
  isv : ∀ c, c < n → PySem.W.kitOne K (.ref (cad K c)) (.type "ValueError") = some true
section
variable {X : Cx} {pins : List (Addr × Obj)} {σ : St} {H : Hp} {s : Shared}
theorem relO_val {v : V} {v' : Value} (r : RelV v v') (f : Str) : RelO (List.lookup f [(("value" : Str), v)]) (if f = "value" then some v' else none) := by
  by_cases hw : f = "value"
  · subst hw
    rw [if_pos rfl]
    have q : List.lookup ("value" : Str) [(("value" : Str), v)] = some v := by simp [List.lookup]
    rw [q]
    exact r
  · rw [if_neg hw]
    have qw : (f == ("value" : Str)) = false := by simpa using hw
    have q2 : List.lookup f [(("value" : Str), v)] = none := by simp [List.lookup, qw]
    rw [q2]
    trivial
/-- a made error is tracked -/
theorem made_inv {h' : Heap} {tk' : Nat} {e C d : Addr} {w : V} {u : Value} (I : Inv X pins σ H s) (M : RQX.OwnMade s.heap h' e C d u) (rw' : RelV w u) :
    Inv X pins σ (upd (upd H d (exd d [("value", w)])) e (exo e C (some d))) { s with heap := h', toks := tk' } := by
  have nd : H d = none := I.hok.fresh M.dbig
  have ne : H e = none := I.hok.fresh M.new
  have od : ∀ {b : Addr} {o : Obj}, s.heap.get? b = some o → b ≠ d := fun {b o} q => Nat.ne_of_lt (Nat.lt_of_lt_of_le (Heap.lt_size q) M.dbig)
  have oe : ∀ {b : Addr} {o : Obj}, s.heap.get? b = some o → b ≠ e := fun {b o} q => Nat.ne_of_lt (Nat.lt_of_lt_of_le (Heap.lt_size q) M.new)
  obtain ⟨t1, ho⟩ := M.obj
  refine I.un (t' := tk') {
    keep := fun b o q n _ _ => M.keep b o q
    slot := fun b o q n _ _ => ⟨o.slots, M.keep b o q⟩
    free := fun b o q n _ => by rw [upd_ne (oe q), upd_ne (od q)]; exact n
    there := fun b o q _ => ⟨o, M.keep b o q⟩
    tups := fun b xs q => by rw [upd_ne (ne_of_none q ne), upd_ne (ne_of_none q nd)]; exact q
    frzs := fun b o v q => by rw [upd_ne (ne_of_none q ne), upd_ne (ne_of_none q nd)]; exact q
    tbls := fun b ps q => ⟨#[], by rw [upd_ne (ne_of_none q ne), upd_ne (ne_of_none q nd), q]; simp⟩ } fun b o q => ?_
  by_cases hb : b = e
  · subst hb
    rw [upd_same] at q
    cases q
    exact exo_ok ho
  · rw [upd_ne hb] at q
    by_cases hd : b = d
    · subst hd
      rw [upd_same] at q
      cases q
      exact exd_ok M.ns (relO_val rw')
    · rw [upd_ne hd] at q
      exact (I.hok b o q).stay (fun c v hc z => M.keep c v z) (fun c hc => by rw [upd_ne (ne_of_none hc ne), upd_ne (ne_of_none hc nd)]; exact hc) (fun c xs hc => by rw [upd_ne (ne_of_none hc ne), upd_ne (ne_of_none hc nd)]; exact hc)
/-- C(e) as a value -/
def tErr (C : Addr) (ta : TA) : TE := fun σ H Q => ta σ H fun vs H1 => ∃ v, vs = [v] ∧ ∀ a d, H1 a = none → H1 d = none → a ≠ d → Q (.ref a) (upd (upd H1 d (exd d [("value", v)])) a (exo a C (some d)))
theorem pe_err {a : Expr} {ta : TA} {x : Str} {p pos : Pos} {k D fI C : Nat} (T : RQX.QTxt X.prog X.K D fI) (TC : RQX.QCls X.K D fI C) (hr : Room k X.A) (hm : X.mg x = some (.ref C)) (hsu : X.mg "super" = none) (ha : PA X [a] ta) (hg : Gl X x := by rfl) (hdb : (x == ("__debug__" : Str)) = false := by decide)
    (he : starEach (a :: []) X.env = (false, eval a X.env) :: starEach [] X.env := by rfl) (hpl : (backTo pos (starEach [] X.env)).any (·.1) = false := by rfl) :
    PE X (.Call (.Name x p) [a] [] pos) (tErr C ta) := by
  refine ⟨fun pins s σ H Q I h => ?_⟩
  refine wpAny_Call_Name_kw (ld_glob I hg hm ?_ hdb)
  refine PySem.W.callWith_K (h₀ := X.base) I.ok.mod.kin TC.kC (thn (ha.run pos pins s σ H _ I h) fun us s1 hh => ?_) he hpl
  obtain ⟨vs, H1, I1, r1, v, ev, q1⟩ := hh
  subst ev
  refine ⟨I1.kIn, ?_⟩
  obtain ⟨v', rfl, rv⟩ := r1.one
  show wpAny _ _ (call (.ref C) [v']) _ _ _
  obtain ⟨mb, hb1, hb2⟩ := I1.mod.blt
  refine wpAny_call (RQX.q_made T TC I1.kIn I1.nolimit (I1.mod.glob.keeps I1.bk) hsu (hb1.keeps I1.bk) ((hb2 _ (by decide)).trans (by first | rfl | kernel_rfl)) (by have := hr.dp; omega) fun h' tk' e d M => ?_)
  exact ⟨.ref e, _, made_inv I1 M rv, rfl, q1 e d (I1.hok.fresh M.new) (I1.hok.fresh M.dbig) (Ne.symm M.dne)⟩
/-- .. to be raised -/
def tMkErr (C : Addr) (ta : TA) : St → Hp → XK → Prop := fun σ H Q => ta σ H fun vs H1 => ∃ v, vs = [v] ∧ ∀ d, H1 d = none → Q (.ref C) (some d) (upd H1 d (.xd [(("value" : Str), v)]))
theorem pmk_err {a : Expr} {ta : TA} {x : Str} {p pos : Pos} {k D fI C : Nat} (T : RQX.QTxt X.prog X.K D fI) (TC : RQX.QCls X.K D fI C) (hr : Room k X.A) (hm : X.mg x = some (.ref C)) (hsu : X.mg "super" = none) (ha : PA X [a] ta) (hg : Gl X x := by rfl) (hdb : (x == ("__debug__" : Str)) = false := by decide)
    (he : starEach (a :: []) X.env = (false, eval a X.env) :: starEach [] X.env := by rfl) (hpl : (backTo pos (starEach [] X.env)).any (·.1) = false := by rfl) :
    PMk X (.Call (.Name x p) [a] [] pos) (tMkErr C ta) := by
  intro pins s σ H Q I h
  refine wpAny_Call_Name_kw (ld_glob I hg hm ?_ hdb)
  refine PySem.W.callWith_K (h₀ := X.base) I.ok.mod.kin TC.kC (thn (ha.run pos pins s σ H _ I h) fun us s1 hh => ?_) he hpl
  obtain ⟨vs, H1, I1, r1, v, ev, q1⟩ := hh
  subst ev
  refine ⟨I1.kIn, ?_⟩
  obtain ⟨v', rfl, rv⟩ := r1.one
  show wpAny _ _ (call (.ref C) [v']) _ _ _
  obtain ⟨mb, hb1, hb2⟩ := I1.mod.blt
  have hlim := I1.nolimit
  have hgl := I1.mod.glob.keeps I1.bk
  have hbl := hb1.keeps I1.bk
  obtain ⟨hp, g, dr, tk, os⟩ := s1
  refine wpAny_call (RQX.q_made T TC I1.kIn hlim hgl hsu hbl ((hb2 _ (by decide)).trans (by first | rfl | kernel_rfl)) (by have := hr.dp; omega) fun h' tk' e d M => ?_)
  show MkP X pins σ Q (.ref e) ⟨h', g, dr, tk', os⟩
  obtain ⟨t1, hoe⟩ := M.obj
  have hns := M.ns
  obtain ⟨G', g1, g2⟩ := restrict h' fun b => decide (b ≠ e)
  have gk : ∀ b, b ≠ e → G'.get? b = h'.get? b := fun b hb => g1 b (decide_eq_true hb)
  have ge : G'.get? e = none := g2 e (by simp)
  have old : ∀ b o, hp.get? b = some o → G'.get? b = some o := fun b o q => (gk b (Nat.ne_of_lt (Nat.lt_of_lt_of_le (Heap.lt_size q) M.new))).trans (M.keep b o q)
  have ob : ObjOk X.prog X.w (upd H1 d (.xd [(("value" : Str), v)])) G' d (.xd [(("value" : Str), v)]) :=
    ⟨_, hns.at (fun o q => (gk d M.dne).trans q), fun f => relO_val rv f⟩
  have J : Inv X pins σ (upd H1 d (.xd [(("value" : Str), v)])) ⟨G', g, dr, tk', os⟩ := I1.laid (t' := tk') old M.dbig ob
  refine ⟨e, _, _, ⟨G', g, dr, tk', os⟩, _, .ref C, some d, rfl, J, fun b o q => ?_, ge, hoe, ⟨rfl, rfl⟩, rfl, rfl, ?_, rfl, I1.bare, raises_own TC.exC TC.tyC, q1 d (I1.hok.fresh M.dbig)⟩
  · by_cases hb : b = e
    · have q' : G'.get? b = some o := q
      rw [hb, ge] at q'; cases q'
    · exact (gk b hb).symm.trans q
  · rw [upd_ne (Ne.symm M.dne)]
    exact I1.hok.fresh M.new
end

/-! ### lifted -/
def mErr (c : Nat) (ms : Rho → Store → R (List D)) : Rho → Store → R D := fun ρ st => (ms ρ st).bind fun ds s => match ds with
  | [d] => .ok (.exc c d) s
  | _ => .bad
def mRaise (c : Nat) (ms : Rho → Store → R (List D)) : MS := fun ρ st => (ms ρ st).toS fun ds s => match ds with
  | [d] => .exn c d s
  | _ => .bad
section
variable {X : Cx} {E : XK} {a : Expr} {ms : Rho → Store → R (List D)} {x : Str} {p pos pos2 : Pos} {k c n : Nat}
theorem qe_err (K : ErrK X.prog X.K X.mg n) (hc : c < n) (hx : x = cname c) (hr : Room k X.A) (ha : QA X E [a] ms) (hg : Gl X x := by rfl) (hdb : (x == ("__debug__" : Str)) = false := by decide)
    (he : starEach (a :: []) X.env = (false, eval a X.env) :: starEach [] X.env := by rfl) (hpl : (backTo pos (starEach [] X.env)).any (·.1) = false := by rfl) :
    QE X E (.Call (.Name x p) [a] [] pos) (mErr c ms) := by
  obtain ⟨fI, T, TC⟩ := K.txt
  refine PE.imp (pe_err T (TC c hc).q hr (by rw [hx]; exact K.mgc c hc) K.sup ha hg hdb he hpl) fun σ H Q h => ?_
  obtain ⟨π, ρ, st, he, hr, h⟩ := h
  refine ⟨π, ρ, st, he, hr, FinR.mono h.bindE fun ds π1 H1 st1 k1 r1 hf vs hv => ?_⟩
  split at hf
  · rename_i d
    obtain ⟨v, rfl, hw⟩ := hv.inv1
    refine ⟨v, rfl, fun e dx ne nd hne => ?_⟩
    have ne' : (upd H1 dx (exd dx [("value", v)])) e = none := by rw [upd_ne hne]; exact ne
    have k2 := keep_new (o := exd dx [("value", v)]) r1 nd
    have r2 := r1.new (o := exd dx [("value", v)]) nd
    have k3 := keep_new (o := exo e (cad X.K c) (some dx)) r2 ne'
    refine hf π1 _ (k2.trans k3) (r2.new ne') (.ref e) ⟨e, dx, v, rfl, upd_same, by rw [upd_ne (Ne.symm hne)]; exact upd_same, Rv.keep r2 k3 d (Rv.keep r1 k2 d hw)⟩
  · exact hf.elim
theorem qs_raise {W : WX} (K : ErrK X.prog X.K X.mg n) (hcm : X.calm = true) (hc : c < n) (hx : x = cname c) (hr : Room k X.A) (tk : Takes X W) (hW : ∀ cls d σ H, E cls d H → W cls d σ H) (ha : QA X E [a] ms) (hg : Gl X x := by rfl) (hdb : (x == ("__debug__" : Str)) = false := by decide)
    (he : starEach (a :: []) X.env = (false, eval a X.env) :: starEach [] X.env := by rfl) (hpl : (backTo pos (starEach [] X.env)).any (·.1) = false := by rfl) :
    QS X E (.Raise (some (.Call (.Name x p) [a] [] pos)) none pos2) (mRaise c ms) := by
  obtain ⟨fI, T, TC⟩ := K.txt
  refine PS.imp (ps_raise hcm tk (pmk_err T (TC c hc).q hr (by rw [hx]; exact K.mgc c hc) K.sup ha hg hdb he hpl)) fun Z σ H h => ?_
  obtain ⟨π, ρ, st, he, hr, h⟩ := h
  refine ⟨π, ρ, st, he, hr, FinR.mono h.ofR fun ds π1 H1 st1 k1 r1 hf vs hv => ?_⟩
  split at hf
  · rename_i d
    obtain ⟨v, rfl, hw⟩ := hv.inv1
    refine ⟨v, rfl, fun dx nd => hW _ _ _ _ ?_⟩
    have k2 := keep_new (o := .xd [("value", v)]) r1 nd
    exact hf π1 _ v dx k2 (r1.new nd) (Rv.keep r1 k2 d hw) upd_same
  · exact hf.elim
end

/-! ### .value, isinstance -/
section
variable {X : Cx}
/-- the look at a tracked error -/
theorem exo_look {pins : List (Addr × Obj)} {σ : St} {H : Hp} {s : Shared} {a C dd : Addr} {w : V} (I : Inv X pins σ H s) (h1 : H a = some (exo a C (some dd))) (h2 : H dd = some (exd dd [("value", w)])) :
    ∃ (t1 : Addr) (od : Obj) (u : Value), PySem.W.InstAt s.heap a ({ cls := .ref C, dict := some dd, data := .fields #[.ref t1, .none, .none, .none, .bool false, .none] } : Obj) C (some od) ∧ PySem.W.lookIn "value" od = some (some u) ∧ RelV w u := by
  obtain ⟨t1, ho⟩ := exo_at I.hok h1
  obtain ⟨mA, hns, hr⟩ := exd_at I.hok h2
  obtain ⟨od, hod, hl⟩ := lookIn_ns hns
  have hr' := hr "value"
  have q : List.lookup ("value" : Str) [(("value" : Str), w)] = some w := by simp [List.lookup]
  rw [q] at hr'
  obtain ⟨u, hu, ru⟩ := RelO.some_of (v := w) (o := mA "value") hr'
  exact ⟨t1, od, u, ⟨ho, rfl, rfl, hod⟩, by rw [hl, hu], ru⟩
/-- e.value, e an error -/
def tErrVal (K : PySem.W.Frag) (te : TE) : TE := fun σ H Q => te σ H fun x H1 => ∃ a C dd w, x = .ref a ∧ XfC K C ∧ PySem.W.findIn K (.ref C) "value" = some none ∧ H1 a = some (exo a C (some dd)) ∧ H1 dd = some (exd dd [("value", w)]) ∧ Q w H1
theorem pe_errVal {e : Expr} {te : TE} {pos : Pos} (he : PE X e te) (hb : attributeBase e "value" X.env (eval e X.env) = eval e X.env := by rfl) : PE X (.Attribute e "value" pos) (tErrVal X.K te) := by
  refine ⟨fun pins s σ H Q I h => ?_⟩
  refine attr_of hb (thn (he.run pins s σ H _ I h) fun u s1 hh => ?_)
  obtain ⟨x, H1, I1, rx, a, C, dd, w, ex, T, hno, h1, h2, q⟩ := hh
  subst ex
  obtain rfl : u = Value.ref a := rx
  obtain ⟨t1, od, u, J, hl, ru⟩ := exo_look I1 h1 h2
  exact HandSPX.exc_get I1.kIn J T.ga T.gg T.exC (PySem.W.findObj_own T.hdC hno rfl hl) (handed_of ru) ⟨w, H1, I1.tok _, ru, q⟩
end
end RQ
namespace RQX
open PySem PySem.W PySem.Spec PySem.Calls PyProof.Rows
section
variable {prog : Program} {w : World} {A : Around} {E : Value → Shared → Prop} {s : Shared} {K : Frag} {x D : Addr} {ox : Obj} {od : Option Obj}
theorem findObj_dataS {C : Addr} {name : Str} {a g : Value} (hc : (clsIn K C).isSome = true) (ha : findIn K (.ref C) name = some (some a)) (hg : specialIn K a "__get__" = some (some g)) (ht : takesIn K a = some true) : findObj K C od name = some (.bind g a) := by
  obtain ⟨cd, hc⟩ := Option.isSome_iff_exists.mp hc
  unfold findObj
  rw [hc, Option.bind_some, ha, Option.bind_some]
  simp [hg, ht]
theorem class_exo {Q : Option Value → Shared → Prop} (ec : L2.ExcC K D) (X : K.In s.heap) (I : InstAt s.heap x ox D od) (h : Q (some (.ref D)) { s with toks := s.toks + 1 }) : wpAny (model prog w) A (getAttr? (.ref x) "__class__") Q E s := by
  obtain ⟨hga, hgt, hsub, hdct, ha, hn, htk, hm⟩ := ec
  have hf : findObj K D od "__class__" = some (.bind (.builtin "getset_descriptor.__get__") (.builtin "object.__class__")) := findObj_dataS (by obtain ⟨cd, hc, _⟩ := any_some hdct; rw [hc]; rfl) ha hn htk
  obtain ⟨hp, g, d, t, os⟩ := s
  have L0 := I.type (M := model prog w)
  have L1 := looks_findIn (M := model prog w) X hga
  have L2 := looks_findIn (M := model prog w) X hgt
  have L3 := looks_find (M := model prog w) X I hf
  have sub : Looks (model prog w) hp (isInstance (.ref x) (.type "BaseException")) true := L0.andThen (looks_subIn X hsub)
  have hx0 : (false && onTheHeap (Value.builtin "BaseException.__getattribute__")) = false := rfl
  have hx2 : (Value.builtin "BaseException.__getattribute__" == Value.builtin "object.__getattribute__") = false := by decide +kernel
  have hx1 : (onTheHeap (Value.ref D) && Value.builtin "BaseException.__getattribute__" == Value.builtin "object.__getattribute__") = false := by rw [hx2]; rfl
  unfold getAttr? getAttrBy? getAttrBy
  refine wpAny_bind (wpAny_mkText (wpAny_bind (wpAny_attempt (wpAny_holding (wpAny_bind (L0.at (wpAny_bind (L1.at ?_))))))))
  show wpAny _ _ (if (onTheHeap (Value.ref D) && Value.builtin "BaseException.__getattribute__" == Value.builtin "object.__getattribute__") = true then _ else _) _ _ _
  rw [hx1, if_neg Bool.false_ne_true]
  unfold getAttrByItsOwn hookBefore
  refine wpAny_bind ?_
  rw [if_pos (show onTheHeap (Value.ref D) = true from rfl)]
  refine L2.at ?_
  refine wpAny_bind (wpAny_attempt (wpAny_holding ?_))
  unfold callGetattribute
  rw [hx0, if_neg Bool.false_ne_true]
  unfold boundAndCalled
  rw [PySem.F.excAttr_ValueError.ga.bind (.ref x)]
  refine wpAny_bind (wpAny_pure ?_)
  show wpAny _ _ (call (.builtin "BaseException.__getattribute__") [.ref x, .str "__class__" t]) _ _ _
  refine wpAny_call (codeAny_call_builtin PySem.F.excAttr_ValueError.ga.plain PySem.F.entry_bexc_ga ?_)
  refine @check_slot (model prog w) _ _ ⟨hp, g, d, t + 1, os⟩ "BaseException.__getattribute__" "BaseException" "__getattribute__" (.ref x) [.str "__class__" t] [] _ (by decide +kernel) (by decide +kernel) sub (PySem.F.args_bexc_ga (.ref x) (.str "__class__" t)) ?_
  unfold Builtin.«object.__getattribute__»
  refine wpAny_bind (wpAny_of_eq (a := ((Value.ref x : Value), [Value.str "__class__" t])) (by first | rfl | (simp only [slotArgs]; rfl)) ?_)
  refine wpAny_bind (wpAny_pure (wpAny_bind (L0.at (wpAny_bind (L3.at ?_)))))
  show wpAny _ _ (holding [Value.builtin "object.__class__"] (call (.builtin "getset_descriptor.__get__") [.builtin "object.__class__", .ref x, .ref D]) >>= ret) _ _ _
  refine wpAny_bind (wpAny_holding (wpAny_call (class_get (s := ⟨hp, g, d, t + 1, os⟩) (ox := ox) (od := od) X I hm ?_)))
  refine wpAny_pure ?_
  show wpAny _ _ (handedOut (.ref D)) _ _ _
  rw [handedOut_of (v := .ref D) rfl]
  first
    | exact wpAny_pure (wpAny_pure h)
    | exact wpAny_pure h
    | exact wpAny_pure (wpAny_bind (wpAny_pure (wpAny_pure h)))
theorem kit_exo (ec : L2.ExcC K D) : KitX K (.ref x) (.ref D) (fun h => InstAt h x ox D od) where
  ty := fun _ _ _ I => I.type
  it := fun _ _ X _ => by
    obtain ⟨cdD, hcD, _⟩ := any_some ec.hd
    unfold clsIn at hcD
    split at hcD
    · rename_i c' d' cd' sl' ho
      intro A' Q' E' s' k q
      unfold isType loadHead
      exact wpAny_bind (wpAny_loadPart (k _ _ (X _ _ ho)) (wpAny_pure q))
    · cases hcD
  ne := fun h tp dd its n sl X htp => by
    obtain ⟨cdD, hcD, _⟩ := any_some ec.hd
    refine Bool.eq_false_iff.mpr fun q => ?_
    have e : D = tp := Value.ref.inj (beq_iff_eq.mp q)
    subst e
    unfold clsIn at hcD
    split at hcD
    · rename_i c' d' cd' sl' ho
      have z := (X _ _ ho).symm.trans htp
      cases z
    · cases hcD
  ca := fun X I k => class_exo ec X I k
end
end RQX
namespace RQ
open PySem L2 RZ
/-- isinstance(e, c), e a tracked error -/
theorem call_isX {X : Cx} : CallR X (.builtin "isinstance") (fun xs H Q => ∃ (a D dd : Addr) (w c : V) (u : Value) (b : Bool), xs = [.ref a, c] ∧ H a = some (exo a D (some dd)) ∧ H dd = some (exd dd [("value", w)]) ∧ ExcC X.K D ∧ ClsV c u ∧ PySem.W.kitOne X.K (.ref D) u = some b ∧ Q (.bl b) H) := by
  intro pins s σ H xs us Q I r h
  obtain ⟨a, D, dd, w, c, u, b, rfl, h1, h2, ec, k, e, q⟩ := h
  obtain ⟨u1, u2, rfl, r1, r2⟩ := r.two
  have e2 := k.eq r2
  subst e2
  obtain rfl : u1 = Value.ref a := r1
  obtain ⟨t1, od, uu, J, _, _⟩ := exo_look I h1 h2
  exact PySem.W.kia_one (RQX.kit_exo (ox := _) (od := some od) ec) I.kIn J e (fun z => nomatch z) fun tk => ⟨.bl b, H, I.tok tk, rfl, q⟩
/-! lifted -/
def mErrVal (n : Nat) (m : Rho → Store → R D) : Rho → Store → R D := fun ρ st => (m ρ st).bind fun d s => match d with
  | .exc c w => if c < n then .ok w s else .bad
  | _ => .bad
/-- isinstance(e, an own error class), isinstance(e, ValueError) -/
def mIsErr (n k : Nat) (m : Rho → Store → R D) : Rho → Store → R D := fun ρ st => (m ρ st).bind fun d s => match d with
  | .exc c _ => if c < n then .ok (.bl (c == k || k == 0)) s else .bad
  | _ => .bad
def mIsVE (n : Nat) (m : Rho → Store → R D) : Rho → Store → R D := fun ρ st => (m ρ st).bind fun d s => match d with
  | .exc c _ => if c < n then .ok (.bl true) s else .bad
  | _ => .bad
section
variable {X : Cx} {E : XK} {e : Expr} {m : Rho → Store → R D} {x : Str} {p p2 pos : Pos} {k n : Nat}
theorem qe_errVal (K : ErrK X.prog X.K X.mg n) (he : QE X E e m) (hb : attributeBase e "value" X.env (eval e X.env) = eval e X.env := by rfl) : QE X E (.Attribute e "value" pos) (mErrVal n m) := PE.imp (pe_errVal he hb) fun σ H Q h => by
  obtain ⟨π, ρ, st, he, hr, h⟩ := h
  refine ⟨π, ρ, st, he, hr, FinR.mono h.bindE fun d π1 H1 st1 k1 r1 hf v hv => ?_⟩
  split at hf
  · rename_i c w
    split at hf
    · rename_i hc
      obtain ⟨fI, T, TC⟩ := K.txt
      obtain ⟨a, dd, z, rfl, h1, h2, h3⟩ := hv
      exact ⟨a, cad X.K c, dd, z, rfl, (TC c hc).xf, (TC c hc).q.noN, h1, h2, FinR.ok r1 hf z h3⟩
    · exact hf.elim
  · exact hf.elim
theorem qe_isErr (K : ErrK X.prog X.K X.mg n) (hk : k < n) (hx : x = cname k) (he : QE X E e m) (hm : X.mg "isinstance" = none) (hgx : Gl X x := by rfl) (hg : Gl X "isinstance" := by rfl) (hdb : (x == ("__debug__" : Str)) = false := by decide)
    (hs : starEach [e, .Name x p2] X.env = (false, eval e X.env) :: starEach [.Name x p2] X.env := by rfl) (hs2 : starEach [.Name x p2] X.env = (false, eval (.Name x p2) X.env) :: starEach [] X.env := by rfl) (hpl : (backTo pos (starEach [.Name x p2] X.env)).any (·.1) = false := by rfl) :
    QE X E (.Call (.Name "isinstance" p) [e, .Name x p2] [] pos) (mIsErr n k m) :=
  PE.imp (pe_callB (call_isX (X := X)) hg hm (by first | rfl | kernel_rfl) (pa_cons he (pa_cons (pe_glob (v := .ref (cad X.K k)) hgx (by rw [hx]; exact K.mgc k hk) rfl hdb) pa_nil hs2) hs) (by decide) (by decide) hs hpl) fun σ H Q h => by
    obtain ⟨π, ρ, st, he, hr, h⟩ := h
    refine ⟨π, ρ, st, he, hr, FinR.mono h.bindE fun d π1 H1 st1 k1 r1 hf v hv => ?_⟩
    split at hf
    · rename_i c w
      split at hf
      · rename_i hc
        obtain ⟨fI, T, TC⟩ := K.txt
        obtain ⟨a, dd, z, rfl, h1, h2, h3⟩ := hv
        exact ⟨a, cad X.K c, dd, z, _, _, _, rfl, h1, h2, (TC c hc).ec, .own _, K.isi c k hc hk, FinR.ok r1 hf _ rfl⟩
      · exact hf.elim
    · exact hf.elim
theorem qe_isVE (K : ErrK X.prog X.K X.mg n) (he : QE X E e m) (hm : X.mg "isinstance" = none) (hmv : X.mg "ValueError" = none) (hgx : Gl X "ValueError" := by rfl) (hg : Gl X "isinstance" := by rfl)
    (hs : starEach [e, .Name "ValueError" p2] X.env = (false, eval e X.env) :: starEach [.Name "ValueError" p2] X.env := by rfl) (hs2 : starEach [.Name "ValueError" p2] X.env = (false, eval (.Name "ValueError" p2) X.env) :: starEach [] X.env := by rfl) (hpl : (backTo pos (starEach [.Name "ValueError" p2] X.env)).any (·.1) = false := by rfl) :
    QE X E (.Call (.Name "isinstance" p) [e, .Name "ValueError" p2] [] pos) (mIsVE n m) :=
  PE.imp (pe_callB (call_isX (X := X)) hg hm (by first | rfl | kernel_rfl) (pa_cons he (pa_cons (pe_bltn (v := .ty "ValueError") (u := .type "ValueError") hgx hmv (by first | rfl | kernel_rfl) rfl (by decide) (by decide)) pa_nil hs2) hs) (by decide) (by decide) hs hpl) fun σ H Q h => by
    obtain ⟨π, ρ, st, he, hr, h⟩ := h
    refine ⟨π, ρ, st, he, hr, FinR.mono h.bindE fun d π1 H1 st1 k1 r1 hf v hv => ?_⟩
    split at hf
    · rename_i c w
      split at hf
      · rename_i hc
        obtain ⟨fI, T, TC⟩ := K.txt
        obtain ⟨a, dd, z, rfl, h1, h2, h3⟩ := hv
        exact ⟨a, cad X.K c, dd, z, _, _, _, rfl, h1, h2, (TC c hc).ec, .ty _, K.isv c hc, FinR.ok r1 hf _ rfl⟩
      · exact hf.elim
    · exact hf.elim
end
end RQ

/-! S10: cells renumbered: a call on a part of the store; cells that nobody reaches let go. -/
namespace RQ
open PySem L2 RZ

mutual
def renD (r : Nat → Option Nat) : D → Option D
  | .non => some .non
  | .bl b => some (.bl b)
  | .int i => some (.int i)
  | .str x => some (.str x)
  | .tup l => (renL r l).map .tup
  | .ktup l => (renL r l).map .ktup
  | .ref n => (r n).map .ref
  | .exc c d => (renD r d).map (.exc c)
  | .scr l => some (.scr l)
def renL (r : Nat → Option Nat) : List D → Option (List D)
  | [] => some []
  | d :: l => match renD r d, renL r l with
    | some d', some l' => some (d' :: l')
    | _, _ => none
end
def renP (r : Nat → Option Nat) : List (D × D) → Option (List (D × D))
  | [] => some []
  | (k, d) :: l => match renD r d, renP r l with
    | some d', some l' => some ((k, d') :: l')
    | _, _ => none
def renF (r : Nat → Option Nat) : List (Nat × D) → Option (List (Nat × D))
  | [] => some []
  | (k, d) :: l => match renD r d, renF r l with
    | some d', some l' => some ((k, d') :: l')
    | _, _ => none
def renC (r : Nat → Option Nat) : Cell → Option Cell
  | .lst l => (renL r l).map .lst
  | .dic t l => (renP r l).map (.dic t)
  | .lck t l => (renP r l).map (.lck t)
  | .ins c fs => (renF r fs).map (.ins c)
section
variable {K : PySem.W.Frag} {π π' : List Addr} {H : Hp} {r : Nat → Option Nat}
theorem optmap {α β : Type} {f : α → β} {o : Option α} {b : β} (h : o.map f = some b) : ∃ a, o = some a ∧ f a = b := by
  cases o with
  | none => cases h
  | some a => exact ⟨a, rfl, Option.some.inj h⟩
mutual
theorem renD_ok (hr : ∀ n m a, r n = some m → π[n]? = some a → π'[m]? = some a) : ∀ (d : D) {d' : D} {v : V}, renD r d = some d' → Rv K π H d v → Rv K π' H d' v
  | .non, d', v, e, h => by cases e; exact h
  | .bl b, d', v, e, h => by cases e; exact h
  | .int i, d', v, e, h => by cases e; exact h
  | .str x, d', v, e, h => by cases e; exact h
  | .tup l, d', v, e, h => by
    obtain ⟨l', e1, rfl⟩ := optmap e
    obtain ⟨a, vs, ev, q, h⟩ := h
    exact ⟨a, vs, ev, q, renL_ok hr l e1 h⟩
  | .ktup l, d', v, e, h => by
    obtain ⟨l', e1, rfl⟩ := optmap e
    obtain ⟨a, vs, ev, q, h⟩ := h
    exact ⟨a, vs, ev, q, renL_ok hr l e1 h⟩
  | .ref n, d', v, e, h => by
    obtain ⟨m, e1, rfl⟩ := optmap e
    obtain ⟨a, q, rfl⟩ := h
    exact ⟨a, hr n m a e1 q, rfl⟩
  | .exc c d, d', v, e, h => by
    obtain ⟨x, e1, rfl⟩ := optmap e
    obtain ⟨a, dd, w, ev, h1, h2, h3⟩ := h
    exact ⟨a, dd, w, ev, h1, h2, renD_ok hr d e1 h3⟩
  | .scr l, d', v, e, h => by cases e; exact h
theorem renL_ok (hr : ∀ n m a, r n = some m → π[n]? = some a → π'[m]? = some a) : ∀ (l : List D) {l' : List D} {vs : List V}, renL r l = some l' → Rvs K π H l vs → Rvs K π' H l' vs
  | [], l', vs, e, h => by cases e; exact h
  | d :: l, l', vs, e, h => by
    obtain ⟨v, w, ev, h1, h2⟩ := h
    unfold renL at e
    split at e
    · rename_i d1 l1 e1 e2
      cases e
      exact ⟨v, w, ev, renD_ok hr d e1 h1, renL_ok hr l e2 h2⟩
    · cases e
end
theorem renP_ok {κ : Type} {kf : D → Option κ} (hr : ∀ n m a, r n = some m → π[n]? = some a → π'[m]? = some a) : ∀ {l l' : List (D × D)} {kv : List (κ × V)}, renP r l = some l' → PK2 K π H kf l kv → PK2 K π' H kf l' kv
  | [], l', kv, e, h => by
    cases e
    cases h
    exact .nil
  | (k, d) :: l, l', kv, e, h => by
    unfold renP at e
    split at e
    · rename_i d1 l1 e1 e2
      cases e
      cases h with
      | cons h1 h2 => exact .cons ⟨h1.1, renD_ok hr d e1 h1.2⟩ (renP_ok hr e2 h2)
    · cases e
theorem renF_ok (hr : ∀ n m a, r n = some m → π[n]? = some a → π'[m]? = some a) : ∀ {l l' : List (Nat × D)} {kv : List (Str × V)}, renF r l = some l' → Paired (fun p q => fname p.1 = q.1 ∧ Rv K π H p.2 q.2) l kv → Paired (fun p q => fname p.1 = q.1 ∧ Rv K π' H p.2 q.2) l' kv
  | [], l', kv, e, h => by
    cases e
    cases h
    exact .nil
  | (k, d) :: l, l', kv, e, h => by
    unfold renF at e
    split at e
    · rename_i d1 l1 e1 e2
      cases e
      cases h with
      | cons h1 h2 => exact .cons ⟨h1.1, renD_ok hr d e1 h1.2⟩ (renF_ok hr e2 h2)
    · cases e
theorem renRD_ok (hr : ∀ n m a, r n = some m → π[n]? = some a → π'[m]? = some a) {t : Bool} {l l' : List (D × D)} {o : HO} (e : renP r l = some l') (h : RelD K π H t l o) : RelD K π' H t l' o := by
  cases t
  all_goals
    obtain ⟨kv, eo, q⟩ := h
    exact ⟨kv, eo, renP_ok hr e q⟩
theorem renC_ok (hr : ∀ n m a, r n = some m → π[n]? = some a → π'[m]? = some a) {c c' : Cell} {o : HO} (e : renC r c = some c') (h : RelC K π H c o) : RelC K π' H c' o := by
  cases c with
  | lst l =>
    obtain ⟨l', e1, rfl⟩ := optmap e
    obtain ⟨vs, eo, q⟩ := h
    exact ⟨vs, eo, renL_ok hr l e1 q⟩
  | dic t l =>
    obtain ⟨l', e1, rfl⟩ := optmap e
    exact renRD_ok hr e1 h
  | lck t l =>
    obtain ⟨l', e1, rfl⟩ := optmap e
    obtain ⟨ob, u, eo, q⟩ := h
    exact ⟨ob, u, eo, renRD_ok hr e1 q⟩
  | ins c fs =>
    obtain ⟨l', e1, rfl⟩ := optmap e
    obtain ⟨dx, fs', eo, q⟩ := h
    exact ⟨dx, fs', eo, renF_ok hr e1 q⟩
theorem mapO_get {α β : Type} {f : α → Option β} : ∀ {l : List α} {l' : List β} {i : Nat} {b : β}, mapO f l = some l' → l'[i]? = some b → ∃ a, l[i]? = some a ∧ f a = some b
  | [], l', i, b, e, h => by cases e; simp at h
  | x :: l, l', i, b, e, h => by
    unfold mapO at e
    split at e
    · rename_i y ys e1 e2
      cases e
      cases i with
      | zero => simp at h; subst h; exact ⟨x, rfl, e1⟩
      | succ i =>
        obtain ⟨a, h1, h2⟩ := mapO_get (i := i) e2 (by simpa using h)
        exact ⟨a, by simpa using h1, h2⟩
    · cases e
theorem mapO_len {α β : Type} {f : α → Option β} : ∀ {l : List α} {l' : List β}, mapO f l = some l' → l'.length = l.length
  | [], l', e => by cases e; rfl
  | x :: l, l', e => by
    unfold mapO at e
    split at e
    · rename_i y ys e1 e2
      cases e
      simp [mapO_len e2]
    · cases e
/-! ### a part of the store -/
def rIn_ (sel : List Nat) (n : Nat) : Option Nat := sel.idxOf? n
theorem rIn_ok {sel : List Nat} {n m : Nat} (h : rIn_ sel n = some m) : sel[m]? = some n := by
  unfold rIn_ at h
  rw [List.idxOf?, List.findIdx?_eq_some_iff_getElem] at h
  obtain ⟨hl, h1, _⟩ := h
  rw [List.getElem?_eq_getElem hl]
  simpa using h1
def shrS (sel : List Nat) (st : Store) : Option Store := mapO (fun i => (st[i]?).bind (renC (rIn_ sel))) sel
def shrA (sel : List Nat) (π : List Addr) : List Addr := sel.map fun i => π.getD i 0
theorem shrA_get {sel : List Nat} {n m : Nat} {a : Addr} (h : rIn_ sel n = some m) (q : π[n]? = some a) : (shrA sel π)[m]? = some a := by
  unfold shrA
  rw [List.getElem?_map, rIn_ok h]
  show some (π.getD n 0) = some a
  rw [List.getD_eq_getElem?_getD, q]; rfl
theorem shr_ok {sel : List Nat} {st st' : Store} (hr : RelSt K π H st) (hn : sel.Nodup) (e : shrS sel st = some st') : RelSt K (shrA sel π) H st' := by
  have hlt : ∀ i ∈ sel, i < π.length := fun i hi => by
    obtain ⟨m, hm⟩ := List.getElem?_of_mem hi
    have hl : m < st'.length := by rw [mapO_len e]; exact (List.getElem?_eq_some_iff.mp hm).1
    obtain ⟨a, h1, h2⟩ := mapO_get (i := m) (b := st'[m]) e (List.getElem?_eq_getElem hl)
    rw [hm] at h1; cases h1
    cases q : st[i]? with
    | none => rw [q] at h2; cases h2
    | some c => rw [← hr.len]; exact (List.getElem?_eq_some_iff.mp q).1
  refine ⟨by rw [mapO_len e]; simp [shrA], ?_, fun m c' hc => ?_⟩
  · unfold shrA
    refine List.pairwise_map.mpr (List.Pairwise.imp_of_mem (fun {i j} hi hj hne eq => ?_) hn)
    rw [List.getD_eq_getElem?_getD, List.getD_eq_getElem?_getD, List.getElem?_eq_getElem (hlt i hi), List.getElem?_eq_getElem (hlt j hj)] at eq
    exact hne ((List.getElem_inj hr.nd).mp eq)
  · obtain ⟨i, h1, h2⟩ := mapO_get e hc
    cases q : st[i]? with
    | none => rw [q] at h2; cases h2
    | some c =>
      rw [q] at h2
      obtain ⟨a, o, g1, g2, g3⟩ := hr.cells i c q
      refine ⟨a, o, ?_, g2, renC_ok (fun n m a => shrA_get) h2 g3⟩
      unfold shrA
      rw [List.getElem?_map, h1]
      show some (π.getD i 0) = some a
      rw [List.getD_eq_getElem?_getD, g1]; rfl
theorem shrA_sub {sel : List Nat} (hlt : ∀ i ∈ sel, i < π.length) {a : Addr} (h : a ∈ shrA sel π) : a ∈ π := by
  unfold shrA at h
  obtain ⟨i, hi, rfl⟩ := List.mem_map.mp h
  rw [List.getD_eq_getElem?_getD, List.getElem?_eq_getElem (hlt i hi)]
  exact List.getElem_mem _
end

/-! ### a call on a part of the store -/
/-- back: the part's cells, then the new ones -/
def rOut (sel : List Nat) (n : Nat) (m : Nat) : Option Nat := if m < sel.length then sel[m]? else some (n + (m - sel.length))
def expS (sel : List Nat) (st st1 : Store) : Option Store := match mapO (fun j => match rIn_ sel j with
    | some i => (st1[i]?).bind (renC (rOut sel st.length))
    | none => st[j]?) (List.range st.length), mapO (renC (rOut sel st.length)) (st1.drop sel.length) with
  | some a, some b => some (a ++ b)
  | _, _ => none
section
variable {K : PySem.W.Frag} {π π1 : List Addr} {H H1 : Hp} {st st0 st1 : Store} {sel : List Nat}
theorem rOut_get {q : List Addr} (hlt : ∀ i ∈ sel, i < π.length) (hl : st.length = π.length) {n m : Nat} {a : Addr} (h : rOut sel st.length n = some m) (g : (shrA sel π ++ q)[n]? = some a) : (π ++ q)[m]? = some a := by
  have hsl : (shrA sel π).length = sel.length := by simp [shrA]
  unfold rOut at h
  split at h
  · rename_i hn
    rw [List.getElem?_append_left (by rw [hsl]; exact hn)] at g
    unfold shrA at g
    rw [List.getElem?_map, h] at g
    have hm : m < π.length := hlt m (List.mem_of_getElem? h)
    rw [List.getElem?_append_left hm]
    have g' : some (π.getD m 0) = some a := g
    rw [List.getD_eq_getElem?_getD, List.getElem?_eq_getElem hm] at g'
    rw [List.getElem?_eq_getElem hm]
    exact g'
  · rename_i hn
    cases h
    rw [List.getElem?_append_right (by rw [hsl]; omega), hsl] at g
    rw [List.getElem?_append_right (by omega), ← hl, show st.length + (n - sel.length) - st.length = n - sel.length by omega]
    exact g
/-- the whole, behind a call on the part -/
theorem exp_ok {st2 : Store} (hr : RelSt K π H st) (hn : sel.Nodup) (e0 : shrS sel st = some st0) (k : Keep (shrA sel π) H π1 H1) (hr1 : RelSt K π1 H1 st1) (e2 : expS sel st st1 = some st2) :
    ∃ π2, Keep π H π2 H1 ∧ RelSt K π2 H1 st2 ∧ ∀ d d' v, renD (rOut sel st.length) d = some d' → Rv K π1 H1 d v → Rv K π2 H1 d' v := by
  have hr0 := shr_ok hr hn e0
  have hsl : (shrA sel π).length = sel.length := by simp [shrA]
  have hlt : ∀ i ∈ sel, i < π.length := fun i hi => by
    obtain ⟨m, hm⟩ := List.getElem?_of_mem hi
    have hl : m < st0.length := by rw [mapO_len e0]; exact (List.getElem?_eq_some_iff.mp hm).1
    obtain ⟨a, h1, h2⟩ := mapO_get (i := m) (b := st0[m]) e0 (List.getElem?_eq_getElem hl)
    rw [hm] at h1; cases h1
    cases q : st[i]? with
    | none => rw [q] at h2; cases h2
    | some c => rw [← hr.len]; exact (List.getElem?_eq_some_iff.mp q).1
  obtain ⟨q, rfl⟩ := k.pre
  have outk : ∀ a ∈ π, a ∉ shrA sel π → ∃ o, H a = some o ∧ H1 a = some o ∧ a ∉ shrA sel π ++ q := fun a ha hna => by
    obtain ⟨j, hj⟩ := List.getElem?_of_mem ha
    have hjl : j < st.length := by rw [hr.len]; exact (List.getElem?_eq_some_iff.mp hj).1
    obtain ⟨a', o, g1, g2, _⟩ := hr.cells j st[j] (List.getElem?_eq_getElem hjl)
    rw [hj] at g1; cases g1
    obtain ⟨h1, h2⟩ := k.old a o g2 hna
    exact ⟨o, g2, h1, h2⟩
  have kk : Keep π H (π ++ q) H1 := ⟨⟨q, rfl⟩, fun a o ho hna => by
    have hna' : a ∉ shrA sel π := fun z => hna (shrA_sub hlt z)
    obtain ⟨h1, h2⟩ := k.old a o ho hna'
    refine ⟨h1, fun z => ?_⟩
    rcases List.mem_append.mp z with z | z
    · exact hna z
    · exact h2 (List.mem_append_right _ z)⟩
  have hrn : ∀ n m a, rOut sel st.length n = some m → (shrA sel π ++ q)[n]? = some a → (π ++ q)[m]? = some a := fun n m a => rOut_get hlt hr.len
  refine ⟨π ++ q, kk, ?_, fun d d' v e h => renD_ok hrn d e h⟩
  unfold expS at e2
  split at e2
  · rename_i A B eA eB
    cases e2
    have lA : A.length = st.length := by rw [mapO_len eA]; simp
    have lB : B.length = st1.length - sel.length := by rw [mapO_len eB]; simp
    have l1 : st1.length = sel.length + q.length := by rw [hr1.len]; simp [hsl]
    refine ⟨by simp [lA, lB, hr.len]; omega, ?_, fun n c hc => ?_⟩
    · have nd1 := hr1.nd
      rw [List.nodup_append] at nd1 ⊢
      refine ⟨hr.nd, nd1.2.1, fun x hx y hy eq => ?_⟩
      subst eq
      by_cases hm : x ∈ shrA sel π
      · exact nd1.2.2 x hm x hy rfl
      · obtain ⟨o, _, _, hno⟩ := outk x hx hm
        exact hno (List.mem_append_right _ hy)
    · by_cases hnl : n < st.length
      · rw [List.getElem?_append_left (by rw [lA]; exact hnl)] at hc
        obtain ⟨j, hj, hf⟩ := mapO_get eA hc
        have hj' : j = n := by
          rw [List.getElem?_range hnl] at hj
          exact (Option.some.inj hj).symm
        subst hj'
        have hπ : j < π.length := by rw [← hr.len]; exact hnl
        cases ei : rIn_ sel j with
        | some i =>
          rw [ei] at hf
          dsimp only at hf
          cases q1 : st1[i]? with
          | none => rw [q1] at hf; cases hf
          | some c1 =>
            rw [q1] at hf
            obtain ⟨a, o, g1, g2, g3⟩ := hr1.cells i c1 q1
            refine ⟨a, o, ?_, g2, renC_ok hrn hf g3⟩
            have hi := shrA_get ei (List.getElem?_eq_getElem hπ)
            rw [List.getElem?_append_left (List.getElem?_eq_some_iff.mp hi).1, hi] at g1
            rw [List.getElem?_append_left hπ, List.getElem?_eq_getElem hπ]
            exact g1
        | none =>
          rw [ei] at hf
          dsimp only at hf
          obtain ⟨a, o, g1, g2, g3⟩ := hr.cells j c hf
          have hna : a ∉ shrA sel π := fun z => by
            unfold shrA at z
            obtain ⟨i, hi, ea⟩ := List.mem_map.mp z
            have hil := hlt i hi
            rw [List.getD_eq_getElem?_getD, List.getElem?_eq_getElem hil] at ea
            obtain ⟨h1, h2⟩ := List.getElem?_eq_some_iff.mp g1
            have : i = j := (List.getElem_inj hr.nd).mp (ea.trans h2.symm)
            subst this
            unfold rIn_ at ei
            rw [List.idxOf?, List.findIdx?_eq_none_iff] at ei
            have := ei i hi
            simp at this
          obtain ⟨h1, h2⟩ := k.old a o g2 hna
          exact ⟨a, o, by rw [List.getElem?_append_left hπ]; exact g1, h1, RelC.keep hr kk g3⟩
      · rw [List.getElem?_append_right (by rw [lA]; omega), lA] at hc
        obtain ⟨c1, hj, hf⟩ := mapO_get eB hc
        rw [List.getElem?_drop] at hj
        obtain ⟨a, o, g1, g2, g3⟩ := hr1.cells _ c1 hj
        refine ⟨a, o, hrn _ _ _ ?_ g1, g2, renC_ok hrn hf g3⟩
        unfold rOut
        rw [if_neg (by omega)]
        congr 1
        omega
  · cases e2
/-- the def's spec on a part of the store: sel tells which cells -/
def frF (sel : List D → Store → List Nat) (f : FD) : FD := fun ds st => if decide (sel ds st).Nodup = true then (match renL (rIn_ (sel ds st)) ds, shrS (sel ds st) st with
  | some ds0, some st0 => (match f ds0 st0 with
    | .ok d st1 => (match renD (rOut (sel ds st) st.length) d, expS (sel ds st) st st1 with
      | some d', some st2 => .ok d' st2
      | _, _ => .bad)
    | .exn c d st1 => (match renD (rOut (sel ds st) st.length) d, expS (sel ds st) st st1 with
      | some d', some st2 => .exn c d' st2
      | _, _ => .bad)
    | .bad => .bad)
  | _, _ => .bad) else .bad
theorem renL_len {r : Nat → Option Nat} : ∀ {l l' : List D}, renL r l = some l' → l'.length = l.length
  | [], l', e => by cases e; rfl
  | d :: l, l', e => by
    unfold renL at e
    split at e
    · rename_i d1 l1 e1 e2
      cases e
      simp [renL_len e2]
    · cases e
theorem LF_fr {n : Nat} {f : FD} {sl : List D → Store → List Nat} {vs : List V} {H : Hp} {Q : VK} {E : XK} (h : LF K n (frF sl f) vs H Q E) : LF K n f vs H Q E := by
  obtain ⟨π, ds, st, hl, hv, hr, h⟩ := h
  unfold frF at h
  split at h
  · rename_i hn
    have hn := of_decide_eq_true hn
    split at h
    · rename_i ds0 st0 e1 e2
      refine ⟨shrA (sl ds st) π, ds0, st0, by rw [renL_len e1, hl], renL_ok (fun _ _ _ => shrA_get) ds e1 hv, shr_ok hr hn e2, ?_⟩
      cases ef : f ds0 st0 with
      | ok d st1 =>
        rw [ef] at h
        dsimp only at h
        split at h
        · rename_i d' st2 e3 e4
          intro π1 H1 k1 r1 v hv1
          obtain ⟨π2, k2, r2, q⟩ := exp_ok hr hn e2 k1 r1 e4
          exact h π2 H1 k2 r2 v (q d d' v e3 hv1)
        · exact h.elim
      | exn c d st1 =>
        rw [ef] at h
        dsimp only at h
        split at h
        · rename_i d' st2 e3 e4
          intro π1 H1 v dd k1 r1 hv1 hd
          obtain ⟨π2, k2, r2, q⟩ := exp_ok hr hn e2 k1 r1 e4
          exact h π2 H1 v dd k2 r2 (q d d' v e3 hv1) hd
        · exact h.elim
      | bad => rw [ef] at h; exact h.elim
    · exact h.elim
  · exact h.elim

/-! ### cells let go -/
theorem gc_ok {n0 : Nat} {ks : List Nat} {st2 : Store} {π0 : List Addr} {H0 : Hp} (hn0 : n0 = π0.length) (k : Keep π0 H0 π H) (hr : RelSt K π H st) (hn : (List.range n0 ++ ks).Nodup) (e : shrS (List.range n0 ++ ks) st = some st2) :
    Keep π0 H0 (shrA (List.range n0 ++ ks) π) H ∧ RelSt K (shrA (List.range n0 ++ ks) π) H st2 := by
  refine ⟨?_, shr_ok hr hn e⟩
  have hlt : ∀ i ∈ List.range n0 ++ ks, i < π.length := fun i hi => by
    obtain ⟨m, hm⟩ := List.getElem?_of_mem hi
    have hl : m < st2.length := by rw [mapO_len e]; exact (List.getElem?_eq_some_iff.mp hm).1
    obtain ⟨a, h1, h2⟩ := mapO_get (i := m) (b := st2[m]) e (List.getElem?_eq_getElem hl)
    rw [hm] at h1; cases h1
    cases q : st[i]? with
    | none => rw [q] at h2; cases h2
    | some c => rw [← hr.len]; exact (List.getElem?_eq_some_iff.mp q).1
  obtain ⟨q, rfl⟩ := k.pre
  refine ⟨⟨shrA ks (π0 ++ q), ?_⟩, fun a o ho hna => ⟨(k.old a o ho hna).1, fun z => (k.old a o ho hna).2 (shrA_sub hlt z)⟩⟩
  unfold shrA
  rw [List.map_append]
  congr 1
  refine List.ext_getElem? fun i => ?_
  rw [List.getElem?_map]
  by_cases hi : i < n0
  · rw [List.getElem?_range hi]
    show some ((π0 ++ q).getD i 0) = _
    rw [List.getD_eq_getElem?_getD, List.getElem?_append_left (by omega), List.getElem?_eq_getElem (by omega)]; rfl
  · rw [List.getElem?_eq_none (by simpa using hi), List.getElem?_eq_none (by omega)]; rfl
/-- f, then only the old cells and those at ks stay -/
def gcF (ks : D → Store → List Nat) (f : FD) : FD := fun ds st => match f ds st with
  | .ok d st1 => if decide (List.range st.length ++ ks d st1).Nodup = true then (match renD (rIn_ (List.range st.length ++ ks d st1)) d, shrS (List.range st.length ++ ks d st1) st1 with
    | some d', some st2 => .ok d' st2
    | _, _ => .bad) else .bad
  | .exn c d st1 => if decide (List.range st.length ++ ks d st1).Nodup = true then (match renD (rIn_ (List.range st.length ++ ks d st1)) d, shrS (List.range st.length ++ ks d st1) st1 with
    | some d', some st2 => .exn c d' st2
    | _, _ => .bad) else .bad
  | .bad => .bad
theorem LF_gc {n : Nat} {f : FD} {ks : D → Store → List Nat} {vs : List V} {H : Hp} {Q : VK} {E : XK} (h : LF K n (gcF ks f) vs H Q E) : LF K n f vs H Q E := by
  obtain ⟨π, ds, st, hl, hv, hr, h⟩ := h
  refine ⟨π, ds, st, hl, hv, hr, ?_⟩
  unfold gcF at h
  cases ef : f ds st with
  | bad => rw [ef] at h; exact h.elim
  | ok d st1 =>
    rw [ef] at h
    dsimp only at h
    split at h
    · rename_i hn
      have hn := of_decide_eq_true hn
      split at h
      · rename_i d' st2 e1 e2
        intro π1 H1 k1 r1 v hv1
        obtain ⟨k2, r2⟩ := gc_ok hr.len k1 r1 hn e2
        exact h _ H1 k2 r2 v (renD_ok (fun _ _ _ => shrA_get) d e1 hv1)
      · exact h.elim
    · exact h.elim
  | exn c d st1 =>
    rw [ef] at h
    dsimp only at h
    split at h
    · rename_i hn
      have hn := of_decide_eq_true hn
      split at h
      · rename_i d' st2 e1 e2
        intro π1 H1 v dd k1 r1 hv1 hd
        obtain ⟨k2, r2⟩ := gc_ok hr.len k1 r1 hn e2
        exact h _ H1 v dd k2 r2 (renD_ok (fun _ _ _ => shrA_get) d e1 hv1) hd
      · exact h.elim
    · exact h.elim
/-- a statement's end: only the old cells and those at ks stay, slots that would reach others are forgotten -/
def renR (r : Nat → Option Nat) (ρ : Rho) : Rho := ρ.map fun o => o.bind (renD r)
def gcR (n0 : Nat) (ks : Rho → Store → List Nat) (r : RS) : RS := match r with
  | .nx ρ st => if decide (List.range n0 ++ ks ρ st).Nodup = true then (match shrS (List.range n0 ++ ks ρ st) st with
    | some st2 => .nx (renR (rIn_ (List.range n0 ++ ks ρ st)) ρ) st2
    | none => .bad) else .bad
  | .ct ρ st => if decide (List.range n0 ++ ks ρ st).Nodup = true then (match shrS (List.range n0 ++ ks ρ st) st with
    | some st2 => .ct (renR (rIn_ (List.range n0 ++ ks ρ st)) ρ) st2
    | none => .bad) else .bad
  | .bk ρ st => if decide (List.range n0 ++ ks ρ st).Nodup = true then (match shrS (List.range n0 ++ ks ρ st) st with
    | some st2 => .bk (renR (rIn_ (List.range n0 ++ ks ρ st)) ρ) st2
    | none => .bad) else .bad
  | r => r
theorem renR_ok {π' : List Addr} {r : Nat → Option Nat} {ρ : Rho} {σ : St} (hr : ∀ n m a, r n = some m → π[n]? = some a → π'[m]? = some a) (h : RelEnv K π H ρ σ) : RelEnv K π' H (renR r ρ) σ := by
  refine ⟨by simpa [renR] using h.1, fun i d e => ?_⟩
  unfold renR at e
  rw [List.getElem?_map] at e
  cases q : ρ[i]? with
  | none => rw [q] at e; cases e
  | some o =>
    rw [q] at e
    cases o with
    | none => cases e
    | some d0 =>
      have e' : renD r d0 = some d := Option.some.inj e
      obtain ⟨v, h1, h2⟩ := h.2 i d0 q
      exact ⟨v, h1, renD_ok hr d0 e' h2⟩
theorem FinS.gc {E : XK} {Z : Ends} {r : RS} {n0 : Nat} {ks : Rho → Store → List Nat} {π0 : List Addr} {H0 : Hp} (hn0 : n0 = π0.length) (h : FinS K E π0 H0 (gcR n0 ks r) Z) : FinS K E π0 H0 r Z := by
  unfold gcR at h
  cases r with
  | nx ρ st1 =>
    dsimp only at h
    split at h
    · rename_i hn
      have hn := of_decide_eq_true hn
      split at h
      · rename_i st2 e2
        intro π1 H1 σ1 k1 r1 he
        obtain ⟨k2, r2⟩ := gc_ok hn0 k1 r1 hn e2
        exact h _ H1 σ1 k2 r2 (renR_ok (fun _ _ _ => shrA_get) he)
      · exact h.elim
    · exact h.elim
  | ct ρ st1 =>
    dsimp only at h
    split at h
    · rename_i hn
      have hn := of_decide_eq_true hn
      split at h
      · rename_i st2 e2
        intro π1 H1 σ1 k1 r1 he
        obtain ⟨k2, r2⟩ := gc_ok hn0 k1 r1 hn e2
        exact h _ H1 σ1 k2 r2 (renR_ok (fun _ _ _ => shrA_get) he)
      · exact h.elim
    · exact h.elim
  | bk ρ st1 =>
    dsimp only at h
    split at h
    · rename_i hn
      have hn := of_decide_eq_true hn
      split at h
      · rename_i st2 e2
        intro π1 H1 σ1 k1 r1 he
        obtain ⟨k2, r2⟩ := gc_ok hn0 k1 r1 hn e2
        exact h _ H1 σ1 k2 r2 (renR_ok (fun _ _ _ => shrA_get) he)
      · exact h.elim
    · exact h.elim
  | rt d st1 => exact h
  | exn c d st1 => exact h
  | bad => exact h
def mGc (ks : Rho → Store → List Nat) (m : MS) : MS := fun ρ st => gcR st.length ks (m ρ st)
theorem qs_gc {X : Cx} {E : XK} {body : List Stmt} {m : MS} (ks : Rho → Store → List Nat) (h : QSs X E body m) : QSs X E body (mGc ks m) := PSs.imp h fun Z σ H h => by
  obtain ⟨π, ρ, st, he, hr, h⟩ := h
  exact ⟨π, ρ, st, he, hr, FinS.gc hr.len h⟩
end
end RQ

/-! S11: defs that run where nothing is being shown (guards empty); their calls; a law's end. -/
namespace RQ
open PySem PySem.Spec PyProof.Rows L2 RZ

/-- a def's promise where no repr is under way -/
structure FnG (P : Program) (w : World) (K : PySem.W.Frag) (mg : Str → Option Value) (base : Heap) (k : Nat) (f : Addr) (fd : FuncData) (ps : List Str) (sp : Sp) : Prop where
  few : ∀ vs H Q E, sp vs H Q E → vs.length = ps.length
  goes : ∀ (A : Around) (outer : List Env) (s : Shared) (H : Hp) (args : Args) (us : List Value) (vs : List V) (Q : VK) (E : XK), Room k A → A.guards = some [] → Env0 P w K mg base A outer s H → BindsTo s fd args (ps.zip us) →
    Vals vs us → sp vs H Q E → codeAny (model P w) A (.call (.ref f) args) (CR (L2.CX P w) outer P w H s Q E) s
section
variable {P : Program} {w : World} {K : PySem.W.Frag} {mg : Str → Option Value} {base : Heap} {k j : Nat} {f : Addr} {fd : FuncData} {ps N : List Str} {sp sp' : Sp}
theorem FnG.up (F : FnG P w K mg base j f fd ps sp) (h : j ≤ k) : FnG P w K mg base k f fd ps sp :=
  { few := F.few, goes := fun A outer s H args us vs Q E room => F.goes A outer s H args us vs Q E (room.mono h) }
theorem FnG.less (F : FnG P w K mg base k f fd ps sp) (h : ∀ vs H Q E, sp' vs H Q E → sp vs H Q E) : FnG P w K mg base k f fd ps sp' :=
  { few := fun vs H Q E q => F.few vs H Q E (h vs H Q E q), goes := fun A outer s H args us vs Q E room gd e0 bd rv q => F.goes A outer s H args us vs Q E room gd e0 bd rv (h vs H Q E q) }
/-- from the body -/
theorem FnG.of {x qual : Str} {params : Arguments} {body : List Stmt} {scope : Scope} {dvs : List V} {kws : List (Str × V)} (F : FunD K x qual params body scope dvs kws f fd) (S : FnScope N ps scope) (few : ∀ vs H Q E, sp vs H Q E → vs.length = ps.length)
    (goes : ∀ (cdv : Value) (A : Around) (outer : List Env) (s : Shared) (H : Hp) (vs : List V) (Q : VK) (E : XK), Room k (A.deeper (envOfC qual scope s.heap.objs.size f cdv)) → (A.deeper (envOfC qual scope s.heap.objs.size f cdv)).guards = some [] → sp vs H Q E →
      ∃ t, PSs (cxOf (L2.CX P w) P w K mg base N qual scope f cdv A outer s H E) body t ∧ t { nx := fun _ H' => Q .non H', rt := Q } (start N vs) H) : FnG P w K mg base (k + 1) f fd ps sp := by
  obtain ⟨oc, od, dV, kV, doc, pm, an, cdv, ct, osl, rfl, look, hcode, _, _⟩ := F.ex
  refine { few := few, goes := fun A outer s H args us vs Q E room gd e0 bd rv q => ?_ }
  have kp : ∀ b o, base.get? b = some o → s.heap.get? b = some o := fun b o e => (e0.bs b o e).1
  have kin : K.In s.heap := e0.mod.kin.keeps kp
  refine codeAny_call_function room.depth (kin _ _ look) rfl S.co S.gen rfl (PySem.W.codeRec_of kin hcode) (bd _ _ _ _ ?_)
  refine wpAny_newFunctionEnv_cells S.kind (fun y hy => ?_) fun env ee s1 ic => ?_
  · rcases S.par y.1 (List.of_mem_zip (show (y.1, y.2) ∈ ps.zip us from hy)).1 with z | z
    · exact Or.inl z
    · exact Or.inr ⟨z, PySem.W.cellsFrom_some _ _ _ (Or.inl z)⟩
  · subst ee
    obtain ⟨t, ht, run⟩ := goes cdv A outer s H vs Q E (room.deeper _) gd q
    have I : L2.Inv (cxOf (L2.CX P w) P w K mg base N qual scope f cdv A outer s H E) [] (start N vs) H s1 := inv_start S room.hd e0 (few vs H Q E q) rv ic
    refine ⟨(e0.mod.nolimit.keeps kp).keeps ic.toInCall.keep, codeAny_func (wpAny_mono (ht.run [] s1 (start N vs) H _ I run) (fun fl s2 hs => ?_) fun _ _ z => z)⟩
    cases fl with
    | brk => obtain ⟨_, _, _, z⟩ := hs; exact z.elim
    | cont => obtain ⟨_, _, _, z⟩ := hs; exact z.elim
    | ret u => obtain ⟨v, _, H2, J, r2, z⟩ := hs; exact ⟨v, H2, J.os, J.bare, J.base, J.hok, r2, z⟩
    | next => obtain ⟨_, H2, J, z⟩ := hs; exact ⟨.non, H2, J.os, J.bare, J.base, J.hok, rfl, z⟩
end
section
variable {X : Cx} {k : Nat} {f C : Addr} {fd : FuncData} {ps : List Str} {sp : Sp} {dvs : List V} {ds : List Value} {E : XK}
/-- called with values -/
theorem go_fn {pins : List (Addr × Obj)} {σ : L2.St} {H : Hp} {s : Shared} {Q : VK} {us : List Value} {vs : List V} (F : FnG X.prog X.w X.K X.mg X.base k f fd ps sp) (room : Room k X.A) (gd : X.A.guards = some []) (hb : Binds X.K fd ps ds) (hd : Vals dvs ds)
    (hx : Passes (L2.CX X.prog X.w) X E) (I : L2.Inv X pins σ H s) (rv : Vals vs us) (q : sp (vs ++ dvs) H Q E) : wpAny (model X.prog X.w) X.A (call (.ref f) us) (EP X pins σ Q) X.xe s := by
  have rel := rv.append hd
  have len : (us ++ ds).length = ps.length := rel.length.symm.trans (F.few _ _ _ _ q)
  have go := F.goes X.A X.stack s H ⟨us, []⟩ (us ++ ds) (vs ++ dvs) Q E room gd I.env0 (hb s us I.kIn len) rel q
  refine wpAny_call (codeAny_mono go fun res s2 z => ?_)
  match res, z with
  | .error e, z => exact hx pins σ H s e s2 I z
  | .ok (.ret u), z => exact I.after z
  | .ok .next, z => exact z.elim
  | .ok .brk, z => exact z.elim
  | .ok .cont, z => exact z.elim
end
/-- nothing leaves -/
theorem passNone {X : Cx} : Passes (L2.CX X.prog X.w) X E0 := fun _ _ _ _ _ _ _ c => by
  obtain ⟨_, _, _, _, _, _, _, _, _, _, _, _, z⟩ := c
  exact z.elim

/-! ### defs by names -/
/-- the module's def x: n arguments, the last of them perhaps by default -/
structure Cal (P : Program) (w : World) (K : PySem.W.Frag) (mg : Str → Option Value) (base : Heap) (k : Nat) (x : Str) (n : Nat) (fn : FD) : Prop where
  ex : ∃ (f : Addr) (fd : FuncData) (ps : List Str), FnG P w K mg base k f fd ps (LF K n fn) ∧ mg x = some (.ref f) ∧ PySem.W.keepIn K (.ref f) = true ∧ Binds K fd ps []
def mCall (fn : FD) (ms : Rho → Store → R (List D)) : Rho → Store → R D := fun ρ st => (ms ρ st).bind fn
def mArgs (n : Nat) (ms : Rho → Store → R (List D)) : Rho → Store → R (List D) := fun ρ st => (ms ρ st).bind fun ds s => if ds.length = n then .ok ds s else .bad
section
variable {P : Program} {w : World} {K : PySem.W.Frag} {mg : Str → Option Value} {base : Heap} {k j n : Nat} {x : Str} {fn fn' : FD}
theorem Cal.up (c : Cal P w K mg base j x n fn) (h : j ≤ k) : Cal P w K mg base k x n fn := by
  obtain ⟨f, fd, ps, F, a, b, d⟩ := c.ex
  exact ⟨f, fd, ps, F.up h, a, b, d⟩
/-- another spec -/
theorem Cal.less (c : Cal P w K mg base k x n fn) (h : ∀ vs H Q E, LF K n fn' vs H Q E → LF K n fn vs H Q E) : Cal P w K mg base k x n fn' := by
  obtain ⟨f, fd, ps, F, a, b, d⟩ := c.ex
  exact ⟨f, fd, ps, F.less h, a, b, d⟩
theorem Cal.fr (c : Cal P w K mg base k x n fn) (sl : List D → Store → List Nat) : Cal P w K mg base k x n (frF sl fn) := c.less fun _ _ _ _ h => LF_fr h
theorem Cal.gc (c : Cal P w K mg base k x n fn) (ks : D → Store → List Nat) : Cal P w K mg base k x n (gcF ks fn) := c.less fun _ _ _ _ h => LF_gc h
/-- f' is f, where it tells anything -/
def LeF (n : Nat) (f' f : FD) : Prop := ∀ ds st, ds.length = n → f' ds st = .bad ∨ f' ds st = f ds st
theorem Cal.eq (c : Cal P w K mg base k x n fn) (h : LeF n fn' fn) : Cal P w K mg base k x n fn' := c.less fun vs H Q E q => by
  obtain ⟨π, ds, st, hl, hv, hr, q⟩ := q
  refine ⟨π, ds, st, hl, hv, hr, ?_⟩
  rcases h ds st hl with e | e
  · rw [e] at q; exact q.elim
  · rw [e] at q; exact q
/-- a def of the text: its body's mirror -/
theorem Cal.of {f : Addr} {fd : FuncData} {N ps : List Str} {qual : Str} {params : Arguments} {body : List Stmt} {scope : Scope} {kws : List (Str × V)} {m : MS} (F : FunD K x qual params body scope [] kws f fd) (hmg : mg x = some (.ref f)) (hb : Binds K fd ps [])
    (S : FnScope N ps scope) (hn : ps.length = n) (hN : N.length = j) (goes : ∀ (cdv : Value) (A : Around) (outer : List Env) (s : Shared) (H : Hp) (E : XK), Room k (A.deeper (envOfC qual scope s.heap.objs.size f cdv)) → (A.deeper (envOfC qual scope s.heap.objs.size f cdv)).guards = some [] →
      QSs (cxOf (L2.CX P w) P w K mg base N qual scope f cdv A outer s H E) E body m) : Cal P w K mg base (k + 1) x n (mDef j m) := by
  subst hn hN
  refine ⟨f, fd, ps, FnG.of F S (fun vs H Q E h => ?_) (fun cdv A outer s H vs Q E room gd h => ⟨_, goes cdv A outer s H E room gd, ?_⟩), hmg, F.kp, hb⟩
  · obtain ⟨π, ds, st, hl, hv, _, _⟩ := h
    rw [← hv.length, hl]
  · have hl : vs.length = ps.length := by
      obtain ⟨π, ds, st, hl, hv, _, _⟩ := h
      rw [← hv.length, hl]
    have hp : ps.length ≤ N.length := by
      have := congrArg List.length S.pre
      rw [List.length_take] at this
      omega
    exact body_of rfl (by rw [hl]; exact h) (by omega)
end
section
variable {X : Cx} {E : XK} {k n : Nat} {x : Str} {fn : FD} {e : Expr} {es : List Expr} {ms : Rho → Store → R (List D)} {p pos : Pos}
theorem qe_call (c : Cal X.prog X.w X.K X.mg X.base k x n fn) (room : Room k X.A) (gd : X.A.guards = some []) (hx : Passes (L2.CX X.prog X.w) X E) (ha : QA X E (e :: es) ms) (hg : Gl X x := by rfl) (hdb : (x == ("__debug__" : Str)) = false := by decide)
    (he : starEach (e :: es) X.env = (false, eval e X.env) :: starEach es X.env := by rfl) (hpl : (backTo pos (starEach es X.env)).any (·.1) = false := by rfl) : QE X E (.Call (.Name x p) (e :: es) [] pos) (mCall fn (mArgs n ms)) := by
  obtain ⟨f, fd, ps, F, hm, hk, hb⟩ := c.ex
  refine ⟨fun pins s σ H Q I h => ?_⟩
  obtain ⟨π, ρ, st, hv, hr, h⟩ := h
  refine wpAny_Call_Name_kw (ld_glob I hg hm (PySem.W.callWith_K (h₀ := X.base) I.ok.mod.kin hk (thn (ha.run pos pins s σ H (fun vs H1 => LF X.K n fn vs H1 Q E) I ?_) fun us s1 ⟨vs, H1, I1, r1, q1⟩ => ⟨I1.kIn, ?_⟩) he hpl) hdb)
  · have h' : FinR X.K E π H (((ms ρ st).bind fun ds s => if ds.length = n then R.ok ds s else .bad).bind fn) _ := h
    refine ⟨π, ρ, st, hv, hr, FinR.mono h'.bindE.bindE fun ds π1 H1 st1 k1 r1 hf vs hvs => ?_⟩
    by_cases hl : ds.length = n
    · rw [if_pos hl] at hf
      exact ⟨π1, ds, st1, hl, hvs, r1, FinR.ok r1 hf⟩
    · rw [if_neg hl] at hf
      exact hf.elim
  · exact go_fn F room gd hb .nil hx I1 r1 (by rw [List.append_nil]; exact q1)
theorem qe_call0 (c : Cal X.prog X.w X.K X.mg X.base k x 0 fn) (room : Room k X.A) (gd : X.A.guards = some []) (hx : Passes (L2.CX X.prog X.w) X E) (hg : Gl X x := by rfl) (hdb : (x == ("__debug__" : Str)) = false := by decide) : QE X E (.Call (.Name x p) [] [] pos) (mCall fn mNil) := by
  obtain ⟨f, fd, ps, F, hm, hk, hb⟩ := c.ex
  refine ⟨fun pins s σ H Q I h => ?_⟩
  obtain ⟨π, ρ, st, hv, hr, h⟩ := h
  exact wpAny_Call_Name_kw (ld_glob I hg hm (PySem.W.callWith_K0 I.kIn hk (go_fn (us := []) F room gd hb .nil hx I .nil ⟨π, [], st, rfl, rfl, hr, h⟩)) hdb)
end
end RQ

/-! S12: list(range), dict displays, pairs of names assigned at once, repr, == of dicts, powers. -/
namespace RQ
open PySem L2 RZ

/-! ### list(range(..)) -/
def rngL (a b : Int) : List D := (List.range (b - a).toNat).map fun i => .int (a + (i : Nat))
def mLR (ma mb : Rho → Store → R D) : Rho → Store → R (List D) := fun ρ st => (ma ρ st).bind fun a s1 => (mb ρ s1).bind fun b s2 => match a, b with
  | .int i, .int j => if decide (-(2 ^ 62) ≤ i ∧ i < 2 ^ 62 ∧ -(2 ^ 62) ≤ j ∧ j < 2 ^ 62 ∧ (j - i).toNat ≤ 1000000) then .ok (rngL i j) s2 else .bad
  | _, _ => .bad
section
variable {X : Cx} {E : XK} {a b : Expr} {ma mb : Rho → Store → R D} {p p2 pos pos2 : Pos}
theorem rngL_ok {K : PySem.W.Frag} {π : List Addr} {H : Hp} (i j : Int) : Rvs K π H (rngL i j) (rgV i j) := by
  unfold rngL rgV
  have go : ∀ l : List Nat, Rvs K π H (l.map fun n => D.int (i + (n : Nat))) (l.map fun n => V.int (i + (n : Nat))) := fun l => by
    induction l with
    | nil => exact rfl
    | cons n r ih => exact ⟨_, _, rfl, rfl, ih⟩
  exact go _
theorem ql_listR1 (hc : X.calm = true) (hm : X.mg "list" = none) (hm2 : X.mg "range" = none) (ha : QE X E a ma) (hg : Gl X "list" := by rfl) (hg2 : Gl X "range" := by rfl)
    (na : starEach [a] X.env = (false, eval a X.env) :: starEach [] X.env := by rfl) (nb : starEach [.Call (.Name "range" p2) [a] [] pos2] X.env = (false, eval (.Call (.Name "range" p2) [a] [] pos2) X.env) :: starEach [] X.env := by rfl) :
    QL X E (.Call (.Name "list" p) [.Call (.Name "range" p2) [a] [] pos2] [] pos) (mLR (mC (.int 0)) ma) := PE.imp (pe_listRg hc hg hm (prg_1 hg2 hm2 ha na) nb) fun σ H Q h => by
  obtain ⟨π, ρ, st, he, hr, h⟩ := h
  refine ⟨π, ρ, st, he, hr, FinR.mono (FinR.bindE (r := ma ρ st) h) fun d π1 H1 st1 k1 r1 hf v hv => ?_⟩
  cases d with
  | int j =>
    dsimp only at hf
    split at hf
    · rename_i hb
      obtain ⟨h1, h2, h3, h4, h5⟩ := of_decide_eq_true hb
      refine ⟨j, hv, ⟨h1, h2, h3, h4, Nat.le_trans h5 (by decide)⟩, fun q hq => ?_⟩
      have kn := keep_new (o := .lst (rgV 0 j)) r1 hq
      exact hf π1 _ kn (r1.new hq) q _ (k1.fresh hr r1 hq) (r1.none_out hq) upd_same (rngL_ok 0 j)
    · exact hf.elim
  | _ => exact hf.elim
theorem ql_listR2 (hc : X.calm = true) (hm : X.mg "list" = none) (hm2 : X.mg "range" = none) (ha : QE X E a ma) (hb : QE X E b mb) (hg : Gl X "list" := by rfl) (hg2 : Gl X "range" := by rfl)
    (na : starEach [a, b] X.env = (false, eval a X.env) :: starEach [b] X.env := by rfl) (nb : starEach [b] X.env = (false, eval b X.env) :: starEach [] X.env := by rfl) (hp : (backTo pos2 (starEach [b] X.env)).any (·.1) = false := by rfl)
    (nc : starEach [.Call (.Name "range" p2) [a, b] [] pos2] X.env = (false, eval (.Call (.Name "range" p2) [a, b] [] pos2) X.env) :: starEach [] X.env := by rfl) :
    QL X E (.Call (.Name "list" p) [.Call (.Name "range" p2) [a, b] [] pos2] [] pos) (mLR ma mb) := PE.imp (pe_listRg hc hg hm (prg_2 hg2 hm2 ha hb na nb hp) nc) fun σ H Q h => by
  obtain ⟨π, ρ, st, he, hr, h⟩ := h
  refine ⟨π, ρ, st, he, hr, FinR.mono (FinR.bindE (r := ma ρ st) h) fun d π1 H1 st1 k1 r1 hf v hv => ?_⟩
  refine ⟨π1, ρ, st1, RelEnv.keep hr k1 he, r1, FinR.mono hf.bindE fun d2 π2 H2 st2 k2 r2 hf w hw => ?_⟩
  cases d with
  | int i =>
    cases d2 with
    | int j =>
      dsimp only at hf
      split at hf
      · rename_i hb
        obtain ⟨h1, h2, h3, h4, h5⟩ := of_decide_eq_true hb
        refine ⟨i, j, hv, hw, ⟨h1, h2, h3, h4, Nat.le_trans h5 (by decide)⟩, fun q hq => ?_⟩
        have kn := keep_new (o := .lst (rgV i j)) r2 hq
        have kk := k1.trans k2
        exact hf π2 _ kn (r2.new hq) q _ (kk.fresh hr r2 hq) (r2.none_out hq) upd_same (rngL_ok i j)
      · exact hf.elim
    | _ => exact hf.elim
  | _ => exact hf.elim
end

/-! ### a, b = (x, y): two names -/
def mPar (i j : Nat) (ma mb : Rho → Store → R D) : MS := fun ρ st => (ma ρ st).toS fun a s1 => (mb ρ s1).toS fun b s2 => .nx ((ρ.set i (some a)).set j (some b)) s2
section
variable {X : Cx} {E : XK} {i j : Nat} {x y : Str} {a b : Expr} {ma mb : Rho → Store → R D} {px py pt pos : Pos} {kt k2 : Nat} {pt2 : Pos}
theorem qs_par (hc : X.calm = true) (hN : X.N.Nodup) (hi : X.N[i]? = some x) (hj : X.N[j]? = some y) (hij : i ≠ j) (hx : X.env.scope.names.lookup x = some .local) (hy : X.env.scope.names.lookup y = some .local) (ha : QE X E a ma) (hb : QE X E b mb)
    (hw : swappedStores [.Tuple [.Name x px, .Name y py] kt pt] (.Tuple [a, b] k2 pt2) X.env = pure (some [x, y]) := by rfl)
    (hs : swapsWithSole [.Tuple [.Name x px, .Name y py] kt pt] (.Tuple [a, b] k2 pt2) pos.line X.env = pure false := by rfl) (h1 : starEach (a :: [b]) X.env = (false, eval a X.env) :: starEach [b] X.env := by rfl) (h2 : starEach (b :: []) X.env = (false, eval b X.env) :: starEach [] X.env := by rfl) :
    QS X E (.Assign [.Tuple [.Name x px, .Name y py] kt pt] (.Tuple [a, b] k2 pt2) pos) (mPar i j ma mb) := PS.imp (ps_par hc hN hi hj hij hx hy (pa_cons ha (pa_cons hb pa_nil h2) h1) hw hs) fun Z σ H h => by
  obtain ⟨π, ρ, st, he, hr, h⟩ := h
  refine ⟨π, ρ, st, he, hr, FinR.mono h.ofR fun d π1 H1 st1 k1 r1 hf v hv => ?_⟩
  have he1 := RelEnv.keep hr k1 he
  refine ⟨π1, ρ, st1, he1, r1, FinR.mono hf.ofR fun d2 π2 H2 st2 k2 r2 hf2 w hw => ?_⟩
  exact ⟨v, w, rfl, FinS.nx r2 (((RelEnv.keep r1 k2 he1).set i (Rv.keep r1 k2 d hv)).set j hw) hf2⟩
end

/-! ### an object that is no part of a value is changed -/
section
variable {K : PySem.W.Frag} {π : List Addr} {H : Hp} {p : Addr} {kv kv' : List (Key × V)}
theorem ne_dK {a : Addr} {o : HO} (hp : H p = some (.dK kv)) (h : H a = some o) (n : ∀ q, o ≠ .dK q) : a ≠ p := fun e => by
  subst e
  rw [hp] at h; cases h
  exact n _ rfl
mutual
theorem Rv.chgD (hp : H p = some (.dK kv)) : ∀ (d : D) {v : V}, Rv K π H d v → Rv K π (upd H p (.dK kv')) d v
  | .non, _, h => h
  | .bl _, _, h => h
  | .int _, _, h => h
  | .str _, _, h => h
  | .tup l, v, h => by
    obtain ⟨a, vs, e, q, h⟩ := h
    exact ⟨a, vs, e, by rw [upd_ne (ne_dK hp q fun _ e => by cases e)]; exact q, Rvs.chgD hp l h⟩
  | .ktup l, v, h => by
    obtain ⟨a, vs, e, q, h⟩ := h
    exact ⟨a, vs, e, q, Rvs.chgD hp l h⟩
  | .ref n, v, h => h
  | .exc c d, v, h => by
    obtain ⟨a, dd, w, e, h1, h2, h3⟩ := h
    exact ⟨a, dd, w, e, by rw [upd_ne (ne_dK hp h1 fun _ e => by cases e)]; exact h1, by rw [upd_ne (ne_dK hp h2 fun _ e => by cases e)]; exact h2, Rv.chgD hp d h3⟩
  | .scr l, v, h => by
    obtain ⟨a, e, q⟩ := h
    refine ⟨a, e, ?_⟩
    rcases q with ⟨o, q⟩ | q
    · exact .inl ⟨o, by rw [upd_ne (ne_dK hp q fun _ e => by cases e)]; exact q⟩
    · exact .inr q
theorem Rvs.chgD (hp : H p = some (.dK kv)) : ∀ (l : List D) {vs : List V}, Rvs K π H l vs → Rvs K π (upd H p (.dK kv')) l vs
  | [], _, h => h
  | d :: l, vs, h => by
    obtain ⟨v, q, e, h1, h2⟩ := h
    exact ⟨v, q, e, Rv.chgD hp d h1, Rvs.chgD hp l h2⟩
end
theorem RelD.chgD {t : Bool} {l : List (D × D)} {o : HO} (hp : H p = some (.dK kv)) (h : RelD K π H t l o) : RelD K π (upd H p (.dK kv')) t l o := by
  cases t
  all_goals
    obtain ⟨kv, e, q⟩ := h
    exact ⟨kv, e, PairedMono q fun _ _ z => ⟨z.1, Rv.chgD hp _ z.2⟩⟩
theorem RelC.chgD {c : Cell} {o : HO} (hp : H p = some (.dK kv)) (h : RelC K π H c o) : RelC K π (upd H p (.dK kv')) c o := by
  cases c with
  | lst l => obtain ⟨vs, e, q⟩ := h; exact ⟨vs, e, Rvs.chgD hp l q⟩
  | dic t l => exact RelD.chgD hp h
  | lck t l => obtain ⟨ob, u, e, q⟩ := h; exact ⟨ob, u, e, RelD.chgD hp q⟩
  | ins c fs => obtain ⟨dx, fs', e, q⟩ := h; exact ⟨dx, fs', e, PairedMono q fun _ _ z => ⟨z.1, Rv.chgD hp _ z.2⟩⟩
end

/-! ### dict displays -/
abbrev RvP (K : PySem.W.Frag) (π : List Addr) (H : Hp) : List (D × D) → List (V × V) → Prop := Paired fun p q => Rv K π H p.1 q.1 ∧ Rv K π H p.2 q.2
def LPs (K : PySem.W.Frag) (E : XK) (m : Rho → Store → R (List (D × D))) (σ : St) (H : Hp) (Q : List (V × V) → Hp → Prop) : Prop := ∃ π ρ st, RelEnv K π H ρ σ ∧ RelSt K π H st ∧ FinR K E π H (m ρ st) fun prs π' H' _ => ∀ ps, RvP K π' H' prs ps → Q ps H'
def mPnil : Rho → Store → R (List (D × D)) := fun _ st => .ok [] st
def mPcons (mk mv : Rho → Store → R D) (r : Rho → Store → R (List (D × D))) : Rho → Store → R (List (D × D)) := fun ρ st => (mk ρ st).bind fun k s1 => (mv ρ s1).bind fun v s2 => (r ρ s2).bind fun l s3 => .ok ((k, v) :: l) s3
structure QPs (X : Cx) (E : XK) (pos : Pos) (ks : List (Option Expr)) (vs : List Expr) (m : Rho → Store → R (List (D × D))) : Prop where
  ex : ∃ trs, PPs X pos ks vs trs ∧ ∀ σ H Q, LPs X.K E m σ H Q → tPairs trs σ H Q
def dicOf (prs : List (D × D)) : Option (List (D × D)) := prs.foldl (fun acc p => acc.bind fun l => dPut false l p.1 p.2) (some [])
def mDisp (m : Rho → Store → R (List (D × D))) : Rho → Store → R D := fun ρ st => (m ρ st).bind fun prs s => if decide (prs.length ≤ 15) then (match dicOf prs with
  | some l => .ok (.ref s.length) (s ++ [.dic false l])
  | none => .bad) else .bad
section
variable {X : Cx} {E : XK} {pos : Pos} {k v : Expr} {ks : List (Option Expr)} {vs : List Expr} {mk mv : Rho → Store → R D} {m : Rho → Store → R (List (D × D))}
theorem qps_nil : QPs X E pos [] [] mPnil := ⟨[], pps_nil, fun σ H Q h => by
  obtain ⟨π, ρ, st, he, hr, h⟩ := h
  exact FinR.ok hr h [] .nil⟩
theorem qps_cons (hk : QE X E k mk) (hv : QE X E v mv) (hr : QPs X E pos ks vs m) : QPs X E pos (some k :: ks) (v :: vs) (mPcons mk mv m) := by
  obtain ⟨trs, h1, h2⟩ := hr.ex
  refine ⟨_, pps_cons hk hv h1, fun σ H Q h => ?_⟩
  obtain ⟨π, ρ, st, he, hr, h⟩ := h
  refine ⟨π, ρ, st, he, hr, FinR.mono h.bindE fun d π1 H1 st1 k1 r1 hf x hx => ?_⟩
  have he1 := RelEnv.keep hr k1 he
  refine ⟨π1, ρ, st1, he1, r1, FinR.mono hf.bindE fun d2 π2 H2 st2 k2 r2 hf2 y hy => h2 _ _ _ ?_⟩
  refine ⟨π2, ρ, st2, RelEnv.keep r1 k2 he1, r2, FinR.mono hf2.bindE fun l π3 H3 st3 k3 r3 hf3 ps hps => ?_⟩
  exact FinR.ok r3 hf3 ((x, y) :: ps) (.cons ⟨Rv.keep r2 k3 d (Rv.keep r1 k2 d hx), Rv.keep r2 k3 d2 hy⟩ hps)
theorem qe_dnew : QE X E (.Dict [] [] pos) (mDisp mPnil) := PE.imp pe_dnewK fun σ H Q h => by
  obtain ⟨π, ρ, st, he, hr, h⟩ := h
  intro p hp
  have kn := keep_alloc (o := .dK []) hr hp
  exact h _ _ kn (hr.alloc hp (c := .dic false []) ⟨[], rfl, .nil⟩) (.ref p) ⟨p, by rw [hr.len]; simp, rfl⟩
def mDNT : Rho → Store → R D := fun _ st => .ok (.ref st.length) (st ++ [.dic true []])
theorem qe_dnewT : QE X E (.Dict [] [] pos) mDNT := PE.imp pe_dnewT fun σ H Q h => by
  obtain ⟨π, ρ, st, he, hr, h⟩ := h
  intro p hp
  have kn := keep_alloc (o := .dT []) hr hp
  exact h _ _ kn (hr.alloc hp (c := .dic true []) ⟨[], rfl, .nil⟩) (.ref p) ⟨p, by rw [hr.len]; simp, rfl⟩
theorem dic_ok {K : PySem.W.Frag} {π : List Addr} {H : Hp} : ∀ {prs : List (D × D)} {ps : List (V × V)} {acc l : List (D × D)} {kv : List (Key × V)}, RvP K π H prs ps → PK2 K π H keyD acc kv → prs.foldl (fun acc p => acc.bind fun l => dPut false l p.1 p.2) (some acc) = some l →
    ∃ kvs : List (Key × V), ps = kvs.map (fun kv => (kV kv.1, kv.2)) ∧ PK2 K π H keyD l (mergeK kv kvs)
  | _, _, acc, l, kv, .nil, ha, e => by cases e; exact ⟨[], rfl, ha⟩
  | p :: prs, q :: ps, acc, l, kv, .cons h t, ha, e => by
    rw [List.foldl_cons] at e
    have none_ : ∀ xs : List (D × D), xs.foldl (fun acc p => acc.bind fun l => dPut false l p.1 p.2) (none : Option (List (D × D))) = none := fun xs => by
      induction xs with
      | nil => rfl
      | cons x xs ih => rw [List.foldl_cons]; exact ih
    cases z : dPut false acc p.1 p.2 with
    | none =>
      rw [show (some acc).bind (fun l => dPut false l p.1 p.2) = none from z, none_] at e
      cases e
    | some acc' =>
      rw [show (some acc).bind (fun l => dPut false l p.1 p.2) = some acc' from z] at e
      unfold dPut at z
      split at z
      · cases ek : keyD p.1 with
        | none => rw [ek] at z; cases z
        | some kk =>
          rw [ek] at z
          have z' : putBy keyD kk p.1 p.2 acc = acc' := Option.some.inj z
          have ha' := put_val (K := K) (π := π) (H := H) ek h.2 ha
          rw [z'] at ha'
          obtain ⟨kvs, e1, e2⟩ := dic_ok t ha' e
          exact ⟨(kk, q.2) :: kvs, by rw [List.map_cons, e1, ← keyD_kV ek h.1], e2⟩
      · cases z
theorem qe_disp {k0 : Option Expr} {ks : List (Option Expr)} (h : QPs X E pos (k0 :: ks) vs m) (hall : (k0 :: ks).all (·.isSome) = true := by rfl) (hl : (k0 :: ks).length = vs.length := by rfl) (h15 : (k0 :: ks).length ≤ 15 := by decide) : QE X E (.Dict (k0 :: ks) vs pos) (mDisp m) := by
  obtain ⟨trs, h1, h2⟩ := h.ex
  refine PE.imp (pe_disp h1 hall hl (by simp) h15) fun σ H Q h => ?_
  obtain ⟨π, ρ, st, he, hr, h⟩ := h
  intro p hp
  refine h2 _ _ _ ?_
  have kn := keep_new (o := .dK []) hr hp
  refine ⟨π, ρ, st, RelEnv.keep hr kn he, hr.new hp, ?_⟩
  have h' : FinR X.K E π H ((m ρ st).bind fun prs s => if decide (prs.length ≤ 15) = true then (match dicOf prs with
    | some l => R.ok (D.ref s.length) (s ++ [.dic false l])
    | none => .bad) else .bad) _ := h
  cases em : m ρ st with
  | bad => rw [em] at h'; exact h'.elim
  | exn c d s =>
    rw [em] at h'
    exact fun π1 H1 v dd k1 => h' π1 H1 v dd (kn.trans k1)
  | ok prs s =>
    rw [em] at h'
    replace h' : FinR X.K E π H (if decide (prs.length ≤ 15) = true then (match dicOf prs with
      | some l => R.ok (D.ref s.length) (s ++ [.dic false l])
      | none => .bad) else .bad) (fun d π' H' _ => ∀ v, Rv X.K π' H' d v → Q v H') := h'
    intro π1 H1 k1 r1 ps hps
    split at h'
    · rename_i hlen
      split at h'
      · rename_i l el
        obtain ⟨e1, e2⟩ := k1.old p _ upd_same (hr.none_out hp)
        obtain ⟨kvs, ek, hk⟩ := dic_ok hps (kv := []) .nil el
        refine ⟨e1, kvs, ek, ?_, ?_⟩
        · have hl1 := paired_len hps
          rw [ek, List.length_map] at hl1
          rw [← hl1]
          exact of_decide_eq_true hlen
        · have kk : Keep π H (π1 ++ [p]) (upd H1 p (.dK (mergeK [] kvs))) := ((kn.trans k1).over hp).adopt hp
          have rp : RelSt X.K π1 (upd H1 p (.dK (mergeK [] kvs))) s := by
            -- p is no cell, and nothing that stands for a value
            refine ⟨r1.len, r1.nd, fun n c e => ?_⟩
            obtain ⟨a, o, g1, g2, g3⟩ := r1.cells n c e
            refine ⟨a, o, g1, by rw [upd_ne (fun z : a = p => e2 (z ▸ List.mem_of_getElem? g1))]; exact g2, ?_⟩
            exact RelC.chgD e1 g3
          refine h' _ _ kk (rp.adopt e2 (c := .dic false l) upd_same ⟨_, rfl, PairedMono hk fun _ _ z => ⟨z.1, Rv.chgD e1 _ z.2⟩⟩) (.ref p) ⟨p, by rw [r1.len]; simp, rfl⟩
      · exact h'.elim
    · exact h'.elim
end

/-! ### what is shown -/
/-- data with dicts (of plain keys): a list holds none -/
def keyPD : D → Option PyData
  | .int i => some (.int i)
  | .str x => some (.str x)
  | _ => none
def flatPD : D → Option PyData
  | .non => some .none
  | .bl b => some (.bool b)
  | .int i => some (.int i)
  | .str x => some (.str x)
  | _ => none
def mapP : List (D × D) → Option (List (PyData × PyData))
  | [] => some []
  | p :: r => match keyPD p.1, flatPD p.2, mapP r with
    | some k, some v, some l => some ((k, v) :: l)
    | _, _, _ => none
def dR (st : Store) (d : D) : Option PyData := match d with
  | .ref i => (match st[i]? with
    | some (.dic false l) => (mapP l).map .dict
    | _ => dP st dpth d)
  | _ => dP st dpth d
section
variable {X : Cx} {pins : List (Addr × Obj)} {σ : St} {H : Hp} {s : Shared} {π : List Addr} {st : Store}
mutual
theorem Dp.noDict {K : PySem.W.Frag} : ∀ {v : V} {p : PyData}, Dp K H v p → PyData.hasDict p = false
  | _, _, .non => rfl
  | _, _, .bl _ => rfl
  | _, _, .int _ => rfl
  | _, _, .str _ => rfl
  | _, _, .lst _ h => by simpa [PyData.hasDict] using DpAll.noDict h
  | _, _, .tup _ h => by simpa [PyData.hasDict] using DpAll.noDict h
theorem DpAll.noDict {K : PySem.W.Frag} : ∀ {vs : List V} {ps : List PyData}, DpAll K H vs ps → PyData.hasDictAll ps = false
  | _, _, .nil => rfl
  | _, _, .cons h t => by
    unfold PyData.hasDictAll
    rw [Dp.noDict h, DpAll.noDict t]; rfl
end
/-- read, and the table of modules is none of it -/
def RdsP (h : Heap) (u : Value) (p : PyData) : Prop := ∃ as, Reads h u p as ∧ (p.hasDict = true → sysModules ∉ as)
theorem rdsP_of {v : V} {u : Value} {p : PyData} (I : L2.Inv X pins σ H s) (h : Dp X.K H v p) (r : RelV v u) : RdsP s.heap u p := by
  obtain ⟨as, q⟩ := Dp.reads I p v u h r
  exact ⟨as, q, fun z => by rw [Dp.noDict h] at z; cases z⟩
theorem flat_read {h : Heap} {d : D} {p : PyData} {v : V} {u : Value} {K : PySem.W.Frag} (e : flatPD d = some p) (hv : Rv K π H d v) (r : RelV v u) : Reads h u p [] := by
  cases d with
  | non => cases e; rw [show v = .non from hv] at r; cases r; exact .none
  | bl b => cases e; rw [show v = .bl b from hv] at r; cases r; exact .bool b
  | int i => cases e; rw [show v = .int i from hv] at r; obtain ⟨t, rfl⟩ := r; exact .int i t
  | str x => cases e; rw [show v = .str x from hv] at r; obtain ⟨t, rfl⟩ := r; exact .str x t
  | _ => cases e
theorem key_read {h : Heap} {d : D} {k : Key} {p : PyData} {u : Value} (e : keyPD d = some p) (hk : keyD d = some k) (r : keyIs k u = true) : Reads h u p [] := by
  rcases keyIs_shape r with ⟨i, t, rfl, rfl⟩ | ⟨x, t, rfl, rfl⟩
  · cases d with
    | int j => cases hk; cases e; exact .int _ t
    | str y => cases hk
    | _ => cases hk
  · cases d with
    | int j => cases hk
    | str y => cases hk; cases e; exact .str _ t
    | _ => cases hk
theorem dict_read {K : PySem.W.Frag} {P : Program} {w : World} {h : Heap} : ∀ {l : List (D × D)} {kv : List (Key × V)} {vs : List (Key × Value)} {es : List DictEntry} {ps : List (PyData × PyData)}, PK2 K π H keyD l kv → KV kv vs → PySem.Pairs (mixKind P w) es vs → mapP l = some ps →
    ReadsAll h (es.map (·.key)) (ps.map (·.1)) [] ∧ ReadsAll h (es.map (·.val)) (ps.map (·.2)) []
  | [], _, _, _, _, .nil, .nil, .nil, e => by
    cases e
    exact ⟨.nil, .nil⟩
  | p :: l, _, _, _, _, .cons h1 t1, .cons h2 t2, .cons h3 h4 t3, e => by
    unfold mapP at e
    split at e
    · rename_i k v r e1 e2 e3
      cases e
      obtain ⟨q1, q2⟩ := dict_read t1 t2 t3 e3
      refine ⟨ReadsAll.cons (as := []) (bs := []) (key_read e1 (h1.1.trans (congrArg some h2.1)) h3) q1, ReadsAll.cons (as := []) (bs := []) (flat_read e2 h1.2 ?_) q2⟩
      have z := h2.2
      rw [← h4] at z
      exact z
    · cases e
theorem dR_ok (I : L2.Inv X pins σ H s) (hr : RelSt X.K π H st) {d : D} {p : PyData} {v : V} {u : Value} (e : dR st d = some p) (h : Rv X.K π H d v) (r : RelV v u) : RdsP s.heap u p := by
  unfold dR at e
  split at e
  · rename_i i
    split at e
    · rename_i l e1
      obtain ⟨a, o, _, rfl, ha, hd⟩ := Rv.ref_dic hr h e1
      obtain ⟨kv, rfl, hk⟩ := hd
      obtain ⟨ps, e2, rfl⟩ := optmap e
      obtain ⟨_, hsys, vs, hv, ob, es, ep, g1, g2, g3, g4, g5, _⟩ := (show ObjOk X.prog X.w H s.heap a (.dK kv) from I.hok a _ ha)
      obtain ⟨q1, q2⟩ := dict_read hk hv g5 e2
      cases (show u = Value.ref a from r)
      refine ⟨a :: [] ++ [], Reads.dict g1 g2.1 g3 q1 q2, fun _ hm => ?_⟩
      have : sysModules = a := by simpa using hm
      rw [← this] at hsys
      simp at hsys
    · exact rdsP_of I (dP_ok hr _ _ _ _ e h) r
  · exact rdsP_of I (dP_ok hr _ _ _ _ e h) r
/-- the text that is shown -/
def shownD (st : Store) (d : D) : Option Str := match dR st d with
  | some p => if p.showable && decide (p.depth ≤ 60) && small p.shown.length then some p.shown else none
  | none => none
def bRepr : List D → Store → B := fun ds st => match ds with
  | [d] => (shownD st d).map fun x => (.str x, st)
  | _ => none
theorem cr_repr (hg : X.A.guards = some []) (hu : X.A.units + 64 < cLine) : CallR X (.builtin "repr") (rOfL X.K bRepr) := by
  intro pins s σ H xs us Q I r h
  obtain ⟨π, st, ds, hr, hv, h⟩ := h
  unfold bRepr at h
  split at h
  · rename_i d
    obtain ⟨v, rfl, hd⟩ := hv.inv1
    obtain ⟨u, rfl, ru⟩ := r.one
    cases es : shownD st d with
    | none => rw [es] at h; exact h.elim
    | some x =>
      rw [es] at h
      have q : Q (.str x) H := FinB.some hr h rfl
      unfold shownD at es
      split at es
      · rename_i p ep
        split at es
        · rename_i hc
          cases es
          obtain ⟨hc1, hc3⟩ := Bool.and_eq_true_iff.mp hc
          obtain ⟨hc1, hc2⟩ := Bool.and_eq_true_iff.mp hc1
          have hd60 : p.depth ≤ 60 := of_decide_eq_true hc2
          obtain ⟨as, R, hs⟩ := dR_ok I hr ep hd ru
          have fin : ∀ (h' : Heap) (u' tk : Nat), (∀ b o, s.heap.get? b = some o → h'.get? b = some o) → EP X pins σ Q (.str p.shown u') { s with heap := h', toks := tk } := fun h' u' tk kk => ⟨.str p.shown, H, I.kept (t' := tk) kk, ⟨u', rfl⟩, q⟩
          have same : ∀ b o, s.heap.get? b = some o → s.heap.get? b = some o := fun _ _ e => e
          cases R with
          | none => exact PySem.P.repr_of_none (fin s.heap _ _ same)
          | bool b => exact PySem.P.repr_of_bool (fin s.heap _ _ same)
          | int i t => exact PySem.P.repr_of_int (by simpa [PyData.showable] using hc1) (fin s.heap _ _ same)
          | str x t => exact PySem.P.repr_of_str (fin s.heap _ _ same) (small_ok hc3)
          | list h1 h2 h3 h4 => exact repr_of_reads' (.list h1 h2 h3 h4) hc1 hs hg (by omega) same (fun h' u' tk kk => fin h' u' tk kk) (small_ok hc3)
          | tuple h1 h2 h3 h4 => exact repr_of_reads' (.tuple h1 h2 h3 h4) hc1 hs hg (by omega) same (fun h' u' tk kk => fin h' u' tk kk) (small_ok hc3)
          | dict h1 h2 h3 h4 h5 => exact repr_of_reads' (.dict h1 h2 h3 h4 h5) hc1 hs hg (by omega) same (fun h' u' tk kk => fin h' u' tk kk) (small_ok hc3)
        · cases es
      · cases es
  · exact h.elim
end
end RQ

/-! S13: powers, == of dicts. -/
namespace RQ
open PySem L2 RZ
def bPow : D → D → Store → B := fun a b st => match a, b with
  | .int i, .int j => if decide (0 ≤ j ∧ (Builtin.Int.intBits i : Int) * j ≤ 2 ^ 27) then some (.int (i ^ j.toNat), st) else none
  | _, _ => none
/-- dicts of plain keys and flat values: equal, or nothing is told -/
def deqX (st : Store) (a b : D) : Option Bool := match a, b with
  | .ref i, .ref j => (match st[i]?, st[j]? with
    | some (.dic false l), some (.dic false m) => if decide (l.length = m.length) && l.all (fun p => flatD p.2 && (match keyD p.1 with
        | some k => (match lookBy keyD k m with
          | some d => flatD d && decide (vF d = vF p.2)
          | none => false)
        | none => false)) then some true else none
    | _, _ => deq st a b)
  | _, _ => deq st a b
def bEqX : D → D → Store → B := fun a b st => (deqX st a b).map fun r => (.bl r, st)
def bNeX : D → D → Store → B := fun a b st => (deqX st a b).map fun r => (.bl (!r), st)
section
variable {X : Cx}
theorem os_pow : OpS X (binaryOp .Pow) bPow := by
  intro pins s σ H x y v u Q I rx ry h
  obtain ⟨π, st, a, b, hr, ha, hb, h⟩ := h
  unfold bPow at h
  split at h
  · rename_i i j
    split at h
    · rename_i hc
      obtain ⟨h0, h1⟩ := of_decide_eq_true hc
      rw [show x = .int i from ha] at rx
      rw [show y = .int j from hb] at ry
      obtain ⟨t, rfl⟩ := rx
      obtain ⟨t', rfl⟩ := ry
      exact PyProof.Rows.pow_int h0 h1 ⟨.int (i ^ j.toNat), H, I.tok _, ⟨_, rfl⟩, FinB.some hr h rfl⟩
    · exact h.elim
  · exact h.elim
theorem paired_mem {α β : Type} {F : α → β → Prop} : ∀ {l : List α} {m : List β}, Paired F l m → ∀ q ∈ m, ∃ p ∈ l, F p q
  | _, _, .nil, q, hq => absurd hq List.not_mem_nil
  | _, _, .cons h t, q, hq => by
    rcases List.mem_cons.mp hq with rfl | hq
    · exact ⟨_, List.mem_cons_self .., h⟩
    · obtain ⟨p, hp, h⟩ := paired_mem t q hq
      exact ⟨p, List.mem_cons_of_mem _ hp, h⟩
theorem flatB_vF {d : D} (f : flatD d = true) : flatB (vF d) = true := by
  cases d <;> first | rfl | cases f
theorem deqX_dict {K : PySem.W.Frag} {π : List Addr} {H : Hp} {l m : List (D × D)} {kv kw : List (Key × V)} (h1 : PK2 K π H keyD l kv) (h2 : PK2 K π H keyD m kw)
    (e : (decide (l.length = m.length) && l.all (fun p => flatD p.2 && (match keyD p.1 with
        | some k => (match lookBy keyD k m with
          | some d => flatD d && decide (vF d = vF p.2)
          | none => false)
        | none => false))) = true) : kv.length = kw.length ∧ ∀ q ∈ kv, valV kw q.1 = some q.2 ∧ flatB q.2 = true := by
  obtain ⟨e1, e2⟩ := Bool.and_eq_true_iff.mp e
  refine ⟨by rw [← paired_len h1, ← paired_len h2]; exact of_decide_eq_true e1, fun q hq => ?_⟩
  obtain ⟨p, hp, hk, hv⟩ := paired_mem h1 q hq
  obtain ⟨f1, f2⟩ := Bool.and_eq_true_iff.mp (List.all_eq_true.mp e2 p hp)
  rw [hk] at f2
  dsimp only at f2
  have look := look_val (K := K) (π := π) (H := H) (k := q.1) h2
  cases el : lookBy keyD q.1 m with
  | none => rw [el] at f2; cases f2
  | some d =>
    rw [el] at f2 look
    obtain ⟨f3, f4⟩ := Bool.and_eq_true_iff.mp f2
    obtain ⟨v, g1, g2⟩ := look
    have v1 := (flat_v f3 g2).1
    have v2 := (flat_v f1 hv).1
    have v3 : vF d = vF p.2 := of_decide_eq_true f4
    refine ⟨by rw [g1, v1, v3, v2], by rw [v2]; exact flatB_vF f1⟩
theorem os_eqX (hu : X.A.units + 65 < cLine) : OpS X (compareOp .Eq) bEqX := by
  intro pins s σ H x y v u Q I rx ry h
  obtain ⟨π, st, a, b, hr, ha, hb, h⟩ := h
  have old : FinB X.K π H ((deq st a b).map fun r => (D.bl r, st)) Q → wpAny (model X.prog X.w) X.A (compareOp .Eq v u) (EP X pins σ Q) X.xe s := fun h => os_eq (by omega) pins s σ H x y v u Q I rx ry ⟨π, st, a, b, hr, ha, hb, h⟩
  unfold bEqX deqX at h
  split at h
  · split at h
    · rename_i i j _ _ l m e1 e2
      split at h
      · rename_i hc
        obtain ⟨p, o, _, rfl, hp, kv, rfl, hk⟩ := Rv.ref_dic hr ha e1
        obtain ⟨q, o2, _, rfl, hq, kw, rfl, hk2⟩ := Rv.ref_dic hr hb e2
        obtain ⟨g1, g2⟩ := deqX_dict hk hk2 hc
        exact op_eq_dictA (by omega) pins s σ H _ _ v u Q I rx ry ⟨p, q, kv, kw, rfl, rfl, hp, hq, g1, g2, FinB.some hr h rfl⟩
      · exact h.elim
    · exact old h
  · exact old h
theorem os_neX (hu : X.A.units + 65 < cLine) : OpS X (compareOp .NotEq) bNeX := by
  intro pins s σ H x y v u Q I rx ry h
  obtain ⟨π, st, a, b, hr, ha, hb, h⟩ := h
  have old : FinB X.K π H ((deq st a b).map fun r => (D.bl (!r), st)) Q → wpAny (model X.prog X.w) X.A (compareOp .NotEq v u) (EP X pins σ Q) X.xe s := fun h => os_ne (by omega) pins s σ H x y v u Q I rx ry ⟨π, st, a, b, hr, ha, hb, h⟩
  unfold bNeX deqX at h
  split at h
  · split at h
    · rename_i i j _ _ l m e1 e2
      split at h
      · rename_i hc
        obtain ⟨p, o, _, rfl, hp, kv, rfl, hk⟩ := Rv.ref_dic hr ha e1
        obtain ⟨q, o2, _, rfl, hq, kw, rfl, hk2⟩ := Rv.ref_dic hr hb e2
        obtain ⟨g1, g2⟩ := deqX_dict hk hk2 hc
        exact op_ne_dictA (by omega) pins s σ H _ _ v u Q I rx ry ⟨p, q, kv, kw, rfl, rfl, hp, hq, g1, g2, FinB.some hr h rfl⟩
      · exact h.elim
    · exact old h
  · exact old h
end
end RQ

/-! S14: what a head tells of the error classes. -/
namespace RQ
open PySem PySem.Spec L2 RZ

def errNames : List Str := ["__setattr__", "__getattribute__", "__getattr__", "value", "__class__"]
/-- a class over the root at D (or the root) -/
def clB (K : PySem.W.Frag) (D C : Addr) : Bool := match K.lookup C with
  | some ⟨.type t, _, .cls cd, sl⟩ => (match sl.toList with
    | [_, _, _, _, some (.builtin n), _] => decide (t = "type") && (decide (n = "ValueError.__new__") && (!cd.hasDel && (cd.hasDict && (decide (cd.mro = if C = D then .ref D :: HandSPX.veTail else .ref C :: .ref D :: HandSPX.veTail) &&
        (errNames.all fun x => decide (PySem.W.nsIn K cd.ns x = some none))))))
    | _ => false)
  | _ => false
/-- what a class's own names say of one -/
def ownB (K : PySem.W.Frag) (C : Addr) (x : Str) (r : Option Value) : Bool := match K.lookup C with
  | some ⟨_, _, .cls cd, _⟩ => decide (PySem.W.nsIn K cd.ns x = some r)
  | _ => false
/-- the root's __init__ -/
def iniAd (K : PySem.W.Frag) (D : Addr) : Addr := match PySem.W.findIn K (.ref D) "__init__" with
  | some (some (.ref a)) => a
  | _ => 0
abbrev IniW : Type := Option (Str × Str × Arguments × FuncBody × Scope × Addr × List Str × Value × Value × Addr)
def iniW (K : PySem.W.Frag) (f : Addr) : IniW := match K.lookup f with
  | some ⟨_, _, .func fd, _⟩ => some (fd.name, fd.qualname, fd.params, fd.body, fd.scope, fd.globals, fd.closure.map (·.1), fd.defaults, fd.kwdefaults, fd.builtins)
  | _ => none
def iniV (n : Nat) : IniW := some ("__init__", "QueueError.__init__", RQX.iA n, .stmts (RQX.iB n), RQX.iS, mainGlobals, ["__class__"], .none, .none, builtinsNs)
def iniB (file : Str) (K : PySem.W.Frag) (D f : Addr) : Bool := match K.lookup f with
  | some ⟨.type t, _, .func fd, _⟩ => decide (t = "function") && (match fd.closure with
    | [(_, cc)] => (match K.lookup cc with
      | some ⟨_, _, .cell (some (.ref d)), _⟩ => decide (d = D)
      | _ => false) && (match fd.code with
      | .ref c => (match K.lookup c with
        | some ⟨_, _, .fields vs, _⟩ => (match vs.toList with
          | _ :: .str q _ :: .str z _ :: _ => decide (q = "QueueError.__init__") && (file == z)
          | _ => false)
        | _ => false)
      | _ => false)
    | _ => false)
  | _ => false
def nodB : List Addr → Bool
  | [] => true
  | a :: r => !(r.contains a) && nodB r
def errB (file : Str) (n : Nat) (K : PySem.W.Frag) : Bool :=
  ((List.range n).all fun c => decide (PySem.W.nsIn K mainGlobals (cname c) = some (some (.ref (cad K c))))) && (decide (PySem.W.nsIn K mainGlobals "super" = some none) && (nodB ((List.range n).map fun c => cad K c) &&
    (((List.range n).all fun c => clB K (cad K 0) (cad K c)) && (((List.range n).all fun c => c == 0 || ownB K (cad K c) "__init__" none) && (ownB K (cad K 0) "__init__" (some (.ref (iniAd K (cad K 0)))) &&
      (iniB file K (cad K 0) (iniAd K (cad K 0)) && decide (PySem.W.nsIn K cStatics "thirdparty.any" = some none)))))))
/-! ### the hook -/
def asX (g : Addr → Option Obj) : Nat → List Addr
  | 0 => [mainGlobals, cStatics]
  | n + 1 => He.growD g (asX g n)
abbrev AlX : Type := Bool × List He.FnW × IniW
/-- m: where __init__ stands; n: so many classes; none: no errors at all -/
def obsX (file : Str) (n : Nat) (fa : List He.Fa) (fn : List He.DefD) (K : PySem.W.Frag) : AlX := (((fa.all fun f => f.ok K) && fn.all fun d => d.ok K) && errB file n K, fn.map fun d => He.fnW K d.at_, iniW K (iniAd K (cad K 0)))
def valX (m : Nat) (fn : List He.DefD) : AlX := (true, fn.map He.DefD.val, iniV m)
def SaysX (file : Str) (m n : Nat) (fa : List He.Fa) (fn : List He.DefD) (K : PySem.W.Frag) : Prop := obsX file n fa fn K = valX m fn
def obsXG (j : Nat) (file : Str) (n : Nat) (fa : List He.Fa) (fn : List He.DefD) (g : Addr → Option Obj) : AlX := obsX file n fa fn (He.frG g (asX g j))
def hookX (j : Nat) (file : Str) (m n : Nat) (fa : List He.Fa) (fn : List He.DefD) : PySem.W.Hook where
  α := AlX
  obs := fun s => obsXG j file n fa fn s.heap.get?
  val := fun _ => valX m fn
  says := fun _ h => ∃ K : PySem.W.Frag, K.In h ∧ SaysX file m n fa fn K
  of := fun _ _ e => ⟨_, He.frG_in, e⟩
  keeps := fun _ _ _ ⟨K, hK, c⟩ k => ⟨K, PySem.W.Frag.In.keeps hK k, c⟩
theorem obsXG_eq {j : Nat} {file : Str} {m n : Nat} {fa : List He.Fa} {fn : List He.DefD} {g : Addr → Option Obj} {s : Shared} (h : ∀ a, g a = s.heap.get? a) : obsXG j file n fa fn g = (hookX j file m n fa fn).obs s := by
  have e : g = s.heap.get? := funext h
  rw [e] <;> rfl
section
variable {file : Str} {m n : Nat} {fa : List He.Fa} {fn : List He.DefD} {K : PySem.W.Frag}
theorem SaysX.all (c : SaysX file m n fa fn K) : ((fa.all fun f => f.ok K) = true ∧ (fn.all fun d => d.ok K) = true) ∧ errB file n K = true := by
  have c1 : (((fa.all fun f => f.ok K) && fn.all fun d => d.ok K) && errB file n K) = true := congrArg (fun z : AlX => z.1) c
  obtain ⟨h1, h2⟩ := Bool.and_eq_true_iff.mp c1
  exact ⟨Bool.and_eq_true_iff.mp h1, h2⟩
theorem SaysX.fact (c : SaysX file m n fa fn K) (i : Nat) {f : He.Fa} (h : fa[i]? = some f := by rfl) : f.ok K = true := List.all_eq_true.mp c.all.1.1 f (List.mem_of_getElem? h)
theorem SaysX.def_ (c : SaysX file m n fa fn K) (i : Nat) {d : He.DefD} (h : fn[i]? = some d := by rfl) : ∃ fd, FunD K d.name d.qual d.params d.body d.scope (d.dvs K) (d.kws K) (He.fAd K d.at_) fd := by
  have e : fn.map (fun d => He.fnW K d.at_) = fn.map He.DefD.val := congrArg (fun z : AlX => z.2.1) c
  have e2 : (fn.map fun d => He.fnW K d.at_)[i]? = (fn.map He.DefD.val)[i]? := by rw [e]
  rw [List.getElem?_map, List.getElem?_map, h] at e2
  exact He.DefD.funD (Option.some.inj e2) (List.all_eq_true.mp c.all.1.2 d (List.mem_of_getElem? h))
/-! ### of the classes -/
theorem clB_ok {D C : Addr} (h : clB K D C = true) : ∃ dd cd k0 k1 k2 k3 k5, K.lookup C = some ⟨.type "type", dd, .cls cd, #[k0, k1, k2, k3, some (.builtin "ValueError.__new__"), k5]⟩ ∧ cd.hasDel = false ∧ cd.hasDict = true ∧
    (cd.mro = if C = D then .ref D :: HandSPX.veTail else .ref C :: .ref D :: HandSPX.veTail) ∧ ∀ x ∈ errNames, PySem.W.nsIn K cd.ns x = some none := by
  unfold clB at h
  split at h
  · rename_i t dd cd sl e
    split at h
    · rename_i k0 k1 k2 k3 nw k5 es
      obtain ⟨h1, h⟩ := Bool.and_eq_true_iff.mp h
      obtain ⟨h2, h⟩ := Bool.and_eq_true_iff.mp h
      obtain ⟨h3, h⟩ := Bool.and_eq_true_iff.mp h
      obtain ⟨h4, h⟩ := Bool.and_eq_true_iff.mp h
      obtain ⟨h5, h6⟩ := Bool.and_eq_true_iff.mp h
      have e1 := of_decide_eq_true h1
      have e2 := of_decide_eq_true h2
      subst e1 e2
      have hsl : sl = #[k0, k1, k2, k3, some (.builtin "ValueError.__new__"), k5] := by
        obtain ⟨l⟩ := sl
        exact congrArg Array.mk es
      subst hsl
      exact ⟨dd, cd, k0, k1, k2, k3, k5, e, by simpa using h3, h4, of_decide_eq_true h5, fun x hx => of_decide_eq_true (List.all_eq_true.mp h6 x hx)⟩
    · cases h
  · cases h

theorem own_ref (a : Addr) (x : Str) : PySem.W.ownIn K x (.ref a) = (match K.lookup a with
  | some ⟨_, _, .cls cd, _⟩ => PySem.W.nsIn K cd.ns x
  | _ => none) := rfl
theorem find_ref (a : Addr) (x : Str) : PySem.W.findIn K (.ref a) x = (match K.lookup a with
  | some ⟨_, _, .cls cd, _⟩ => PySem.W.alongIn K x cd.mro
  | _ => none) := rfl
structure Cl2 (K : PySem.W.Frag) (D C : Addr) : Prop where
  look : ∃ dd nm bs ns qn sn sb ab col k0 k1 k2 k3 k5 bm, K.lookup C = some (excClassObj nm qn C ns bs bm true sn sb ab col dd k0 k1 k2 k3 k5 "ValueError.__new__") ∧ (bm = if C = D then HandSPX.veTail else .ref D :: HandSPX.veTail) ∧ ∀ x ∈ errNames, PySem.W.nsIn K ns x = some none
theorem Cl2.of {D C : Addr} (h : clB K D C = true) : Cl2 K D C := by
  obtain ⟨dd, cd, k0, k1, k2, k3, k5, e, h1, h2, h3, h4⟩ := clB_ok h
  obtain ⟨nm, bs, mro, ns, qn, hd, sn, sb, ab, col, del⟩ := cd
  dsimp only at h1 h2 h3 h4
  subst h1 h2
  refine ⟨dd, nm, bs, ns, qn, sn, sb, ab, col, k0, k1, k2, k3, k5, if C = D then HandSPX.veTail else .ref D :: HandSPX.veTail, ?_, rfl, h4⟩
  have hm : mro = .ref C :: (if C = D then HandSPX.veTail else .ref D :: HandSPX.veTail) := by
    rw [h3]
    by_cases q : C = D
    · rw [if_pos q, if_pos q, q]
    · rw [if_neg q, if_neg q]
  rw [e, hm]
section
variable {D C : Addr}
theorem Cl2.cls (h : Cl2 K D C) : ∃ cd, PySem.W.clsIn K C = some cd ∧ cd.mro = .ref C :: (if C = D then HandSPX.veTail else .ref D :: HandSPX.veTail) ∧ cd.hasDict = true ∧ ∀ x ∈ errNames, PySem.W.nsIn K cd.ns x = some none := by
  obtain ⟨dd, nm, bs, ns, qn, sn, sb, ab, col, k0, k1, k2, k3, k5, bm, e, hb, h4⟩ := h.look
  subst hb
  exact ⟨_, by unfold PySem.W.clsIn; rw [e], rfl, rfl, h4⟩
theorem Cl2.own (h : Cl2 K D C) {x : Str} (hx : x ∈ errNames) : PySem.W.ownIn K x (.ref C) = some none := by
  obtain ⟨dd, nm, bs, ns, qn, sn, sb, ab, col, k0, k1, k2, k3, k5, bm, e, hb, h4⟩ := h.look
  rw [own_ref, e]
  exact h4 x hx
theorem Cl2.find (h : Cl2 K D C) (hD : Cl2 K D D) {x : Str} (hx : x ∈ errNames) : PySem.W.findIn K (.ref C) x = PySem.W.alongIn K x HandSPX.veTail := by
  have o1 := h.own hx
  have o2 := hD.own hx
  obtain ⟨dd, nm, bs, ns, qn, sn, sb, ab, col, k0, k1, k2, k3, k5, bm, e, hb, h4⟩ := h.look
  rw [find_ref, e]
  show PySem.W.alongIn K x (.ref C :: bm) = _
  rw [PySem.W.alongIn, o1, hb]
  by_cases q : C = D
  · rw [if_pos q]
  · rw [if_neg q]
    show PySem.W.alongIn K x (.ref D :: HandSPX.veTail) = _
    rw [PySem.W.alongIn, o2]
theorem Cl2.mro (h : Cl2 K D C) (b : Value) : PySem.W.mroIn K C b = some ((Value.ref C :: (if C = D then HandSPX.veTail else .ref D :: HandSPX.veTail)).contains b) := by
  obtain ⟨cd, e, h1, h2, _⟩ := h.cls
  unfold PySem.W.mroIn
  rw [e, Option.bind_some, h1]
  exact if_neg (by simp)
theorem Cl2.type (h : Cl2 K D C) : PySem.W.typeIn K (.ref C) = some (.type "type") := by
  obtain ⟨dd, nm, bs, ns, qn, sn, sb, ab, col, k0, k1, k2, k3, k5, bm, e, hb, h4⟩ := h.look
  show (K.lookup C).map (·.cls) = _
  rw [e]; rfl
theorem Cl2.sub (h : Cl2 K D C) {b : Value} (hb : HandSPX.veTail.contains b = true) : PySem.W.subIn K (.ref C) b = some true := by
  show PySem.W.mroIn K C b = some true
  rw [h.mro]
  congr 1
  by_cases q : C = D
  · rw [if_pos q, List.contains_cons, hb, Bool.or_true]
  · rw [if_neg q, List.contains_cons, List.contains_cons, hb, Bool.or_true, Bool.or_true]
theorem tail_sa : PySem.W.alongIn K "__setattr__" HandSPX.veTail = some (some (.builtin "object.__setattr__")) := by kernel_rfl
theorem tail_ga : PySem.W.alongIn K "__getattribute__" HandSPX.veTail = some (some (.builtin "BaseException.__getattribute__")) := by kernel_rfl
theorem tail_gg : PySem.W.alongIn K "__getattr__" HandSPX.veTail = some none := by kernel_rfl
theorem tail_val : PySem.W.alongIn K "value" HandSPX.veTail = some none := by kernel_rfl
theorem tail_cls : PySem.W.alongIn K "__class__" HandSPX.veTail = some (some (.builtin "object.__class__")) := by kernel_rfl
theorem tail_ini : PySem.W.alongIn K "__init__" HandSPX.veTail = some (some (.builtin "ValueError.__init__")) := by kernel_rfl
theorem tail_call : PySem.W.findIn K (.type "type") "__call__" = some (some (.builtin "type.__call__")) := by kernel_rfl
theorem cls_get : PySem.W.specialIn K (.builtin "object.__class__") "__get__" = some (some (.builtin "getset_descriptor.__get__")) := by kernel_rfl
theorem cls_takes : PySem.W.takesIn K (.builtin "object.__class__") = some true := by kernel_rfl
theorem meta_VE : PySem.W.kitMeta "ValueError" = true := by decide +kernel
theorem ownB_ok {x : Str} {r : Option Value} (h : ownB K C x r = true) : PySem.W.ownIn K x (.ref C) = some r := by
  unfold ownB at h
  rw [own_ref]
  split at h
  · exact of_decide_eq_true h
  · cases h
theorem errC_of {f : Addr} (h : Cl2 K D C) (hD : Cl2 K D D) (hi : C = D ∨ ownB K C "__init__" none = true) (hf : ownB K D "__init__" (some (.ref f)) = true) : ErrC K D f C := by
  have oD := ownB_ok hf
  have alongD : PySem.W.alongIn K "__init__" (.ref D :: HandSPX.veTail) = some (some (.ref f)) := by rw [PySem.W.alongIn, oD]
  have sa := (h.find hD (x := "__setattr__") (by decide)).trans tail_sa
  have ga := (h.find hD (x := "__getattribute__") (by decide)).trans tail_ga
  have gg := (h.find hD (x := "__getattr__") (by decide)).trans tail_gg
  have nv := (h.find hD (x := "value") (by decide)).trans tail_val
  have cl := (h.find hD (x := "__class__") (by decide)).trans tail_cls
  have hb : PySem.W.subIn K (.ref C) (.type "BaseException") = some true := h.sub (by decide)
  have hv : PySem.W.subIn K (.ref C) (.type "ValueError") = some true := h.sub (by decide)
  have ho : PySem.W.mroIn K C (.type "object") = some true := h.sub (b := .type "object") (by decide)
  obtain ⟨cd, e1, e2, e3, _⟩ := h.cls
  have hd : PySem.W.hasDictIn K C = true := by unfold PySem.W.hasDictIn; rw [e1]; exact e3
  have ty := h.type
  obtain ⟨dd, nm, bs, ns, qn, sn, sb, ab, col, k0, k1, k2, k3, k5, bm, e, hbm, h4⟩ := h.look
  have init : PySem.W.findIn K (.ref C) "__init__" = some (some (.ref f)) := by
    rw [find_ref, e]
    show PySem.W.alongIn K "__init__" (.ref C :: bm) = _
    rcases hi with rfl | hi
    · rw [hbm, if_pos rfl]; exact alongD
    · by_cases q : C = D
      · subst q
        rw [hbm, if_pos rfl]; exact alongD
      · rw [PySem.W.alongIn, ownB_ok hi, hbm, if_neg q]; exact alongD
  have hm : PySem.W.mroIn K C (.ref D) = some true := by
    rw [h.mro]
    by_cases q : C = D
    · rw [q, List.contains_cons]; simp
    · rw [if_neg q]; simp
  refine ⟨⟨⟨nm, qn, ns, bs, bm, sn, sb, ab, col, dd, k0, k1, k2, k3, k5, e, ?_⟩, sa, nv, init, ?_, hb, hv, ty, hm, ?_⟩, ⟨ga, gg, hb, hd⟩, ⟨ga, gg, hb, hd, cl, cls_get, cls_takes, ho⟩⟩
  · rw [hbm]
    by_cases q : C = D
    · rw [if_pos q]; decide
    · rw [if_neg q]; show HandSPX.refsVE HandSPX.veTail = true; decide
  · show (match K.lookup C with
      | some ⟨_, _, .func _, _⟩ => true
      | some ⟨_, _, .cls _, _⟩ => PySem.W.specialIn K (.ref C) "__call__" == some (some (.builtin "type.__call__"))
      | _ => false) = true
    rw [e]
    show (PySem.W.specialIn K (.ref C) "__call__" == some (some (.builtin "type.__call__"))) = true
    unfold PySem.W.specialIn
    rw [ty, Option.bind_some, tail_call]
    decide
  · unfold PySem.W.ks_superIn
    rw [e1, Option.bind_some, e2]
    by_cases q : C = D
    · rw [if_pos q, q]
      have : ((Value.ref D :: HandSPX.veTail).dropWhile (· != .ref D)).drop 1 = HandSPX.veTail := by simp [List.dropWhile]
      rw [this]; exact tail_ini
    · rw [if_neg q]
      have hne : (Value.ref C != Value.ref D) = true := by simpa using q
      have hee : (Value.ref D != Value.ref D) = false := by simp
      have : ((Value.ref C :: Value.ref D :: HandSPX.veTail).dropWhile (· != .ref D)).drop 1 = HandSPX.veTail := by
        rw [List.dropWhile_cons, if_pos hne, List.dropWhile_cons, if_neg (by rw [hee]; exact Bool.false_ne_true)]
        rfl
      rw [this]; exact tail_ini
theorem nodB_ok : ∀ {l : List Addr}, nodB l = true → l.Nodup
  | [], _ => List.nodup_nil
  | a :: r, h => by
    unfold nodB at h
    obtain ⟨h1, h2⟩ := Bool.and_eq_true_iff.mp h
    refine List.nodup_cons.mpr ⟨fun z => ?_, nodB_ok h2⟩
    rw [List.contains_iff_mem.mpr z] at h1
    cases h1
/-- of all classes -/
theorem errK_of {P : Program} {mg : Str → Option Value} {h : Heap} {n0 : Nat} (X : K.In h) (G : h.Ns mainGlobals mg) (h0 : 0 < n0) (hm : m = 4 ∨ m = 7) (e : errB P.main.file n0 K = true) (ei : iniW K (iniAd K (cad K 0)) = iniV m)
    (top : (P.main.scope.names.lookup ("super" : Str)).isSome = false) : ErrK P K mg n0 := by
  obtain ⟨e1, e⟩ := Bool.and_eq_true_iff.mp e
  obtain ⟨e2, e⟩ := Bool.and_eq_true_iff.mp e
  obtain ⟨e3, e⟩ := Bool.and_eq_true_iff.mp e
  obtain ⟨e4, e⟩ := Bool.and_eq_true_iff.mp e
  obtain ⟨e5, e⟩ := Bool.and_eq_true_iff.mp e
  obtain ⟨e6, e⟩ := Bool.and_eq_true_iff.mp e
  obtain ⟨e7, e8⟩ := Bool.and_eq_true_iff.mp e
  have mem : ∀ c, c < n0 → c ∈ List.range n0 := fun c hc => List.mem_range.mpr hc
  have cl : ∀ c, c < n0 → Cl2 K (cad K 0) (cad K c) := fun c hc => Cl2.of (List.all_eq_true.mp e4 c (mem c hc))
  have nd := nodB_ok e3
  have inj : ∀ c k, c < n0 → k < n0 → cad K c = cad K k → c = k := fun c k hc hk q => by
    have g1 : ((List.range n0).map fun c => cad K c)[c]? = some (cad K c) := by rw [List.getElem?_map, List.getElem?_range hc]; rfl
    have g2 : ((List.range n0).map fun c => cad K c)[k]? = some (cad K k) := by rw [List.getElem?_map, List.getElem?_range hk]; rfl
    obtain ⟨l1, r1⟩ := List.getElem?_eq_some_iff.mp g1
    obtain ⟨l2, r2⟩ := List.getElem?_eq_some_iff.mp g2
    exact (List.getElem_inj nd).mp (r1.trans (q.trans r2.symm))
  have er : ∀ c, c < n0 → ErrC K (cad K 0) (iniAd K (cad K 0)) (cad K c) := fun c hc => errC_of (cl c hc) (cl 0 h0) (by
    have z := List.all_eq_true.mp e5 c (mem c hc)
    rcases Bool.or_eq_true_iff.mp z with z | z
    · left
      have : c = 0 := by simpa using z
      rw [this]
    · exact .inr z) e6
  refine ⟨⟨iniAd K (cad K 0), ?_, er⟩, fun c hc => PySem.W.mg_of X G (of_decide_eq_true (List.all_eq_true.mp e1 c (mem c hc))), PySem.W.mg_none_of X G (of_decide_eq_true e2), fun c k hc hk => ?_, fun c hc => ?_⟩
  · obtain ⟨cd, c1, _⟩ := (cl 0 h0).cls
    unfold iniB at e7
    unfold iniW at ei
    split at e7
    · rename_i t od fd osl q
      rw [q] at ei
      obtain ⟨t1, e7⟩ := Bool.and_eq_true_iff.mp e7
      have t2 := of_decide_eq_true t1
      subst t2
      obtain ⟨n1, n2, n3, n4, n5, n6, n7, n8, n9, n10, n11, n12, n13, n14, n15⟩ := fd
      have e2' : (some (n1, n2, n3, n4, n5, n6, n7.map (·.1), n8, n9, n15) : IniW) = iniV m := ei
      unfold iniV at e2'
      simp only [Option.some.injEq, Prod.mk.injEq] at e2'
      obtain ⟨g1, g2, g3, g4, g5, g6, g7, g8, g9, g10⟩ := e2'
      subst g1 g2 g3 g4 g5 g6 g8 g9 g10
      dsimp only at e7
      split at e7
      · rename_i y cc _
        have gy : y = "__class__" := by simpa using g7
        subst gy
        obtain ⟨z1, z2⟩ := Bool.and_eq_true_iff.mp e7
        split at z1
        · rename_i cl' cld d csl qc
          have zd := of_decide_eq_true z1
          subst zd
          cases n13 with
          | ref cda =>
            dsimp only at z2
            split at z2
            · rename_i ccl cdd vs ccs qd
              split at z2
              · rename_i v0 qq qt file tf rest qv
                obtain ⟨z3, z4⟩ := Bool.and_eq_true_iff.mp z2
                have z5 := of_decide_eq_true z3
                subst z5
                refine ⟨⟨_, _, _, _, _, _, _, _, _, _, _, _, m, _, _, vs, _, file, tf, _, _, _, hm, rfl, rfl, rfl, q, ?_, qd, ?_, z4, qc⟩, ⟨cd, c1⟩, top, ?_, of_decide_eq_true e8⟩
                · show (match K.lookup cda with
                    | some ⟨_, _, .fields vs, _⟩ => (match vs.toList with | _ :: .str n _ :: _ => n == ("QueueError.__init__" : Str) | _ => false)
                    | _ => false) = true
                  rw [qd]
                  show (match vs.toList with | _ :: .str n _ :: _ => n == ("QueueError.__init__" : Str) | _ => false) = true
                  rw [qv]
                  exact beq_self_eq_true _
                · rw [← Array.getElem?_toList, qv]; rfl
                · show (K.lookup (iniAd K (cad K 0))).map (·.cls) = _
                  rw [q]; rfl
              · cases z2
            · cases z2
          | _ => cases z2
        · cases z1
      · cases e7
    · cases e7
  · unfold PySem.W.kitOne
    by_cases q : c = k
    · subst q
      rw [if_pos (beq_self_eq_true _)]
      simp
    · rw [if_neg (by simpa using fun z => q (inj c k hc hk z))]
      show (if ((PySem.W.clsIn K (cad K k)).isSome && PySem.W.typeIn K (.ref (cad K k)) == some (.type "type")) = true then PySem.W.subIn K (.ref (cad K c)) (.ref (cad K k)) else none) = _
      obtain ⟨cd, c1, _⟩ := (cl k hk).cls
      rw [c1, (cl k hk).type]
      rw [if_pos (show ((some cd).isSome && some (Value.type "type") == some (Value.type "type")) = true by simp)]
      show PySem.W.mroIn K (cad K c) (.ref (cad K k)) = _
      rw [(cl c hc).mro]
      congr 1
      have hck : (c == k) = false := by simpa using q
      rw [hck, Bool.false_or]
      by_cases hk0 : k = 0
      · subst hk0
        by_cases hc0 : cad K c = cad K 0
        · exact absurd (inj c 0 hc h0 hc0) q
        · rw [if_neg hc0]; simp
      · have hne : cad K k ≠ cad K 0 := fun z => hk0 (inj k 0 hk h0 z)
        have hne2 : cad K k ≠ cad K c := fun z => q (inj c k hc hk z.symm)
        by_cases hc0 : cad K c = cad K 0
        · rw [if_pos hc0]; simp [hk0, hne2]
        · rw [if_neg hc0]; simp [hk0, hne2, hne]
  · unfold PySem.W.kitOne
    rw [if_neg (by simp)]
    show (if PySem.W.kitMeta "ValueError" = true then PySem.W.subIn K (.ref (cad K c)) (.type "ValueError") else none) = _
    rw [if_pos meta_VE]
    exact (cl c hc).sub (by decide)
end
end
end RQ

/-! S15: short forms for the printed derivations. -/
namespace RQ
open PySem L2 RZ
theorem hu65 {k : Nat} {A : Around} (r : Room k A) : A.units + 65 < cLine := by have := r.un; omega
theorem hu64 {k : Nat} {A : Around} (r : Room k A) : A.units + 64 < cLine := by have := r.un; omega
theorem hu1 {k : Nat} {A : Around} (r : Room k A) : A.units + 1 < cLine := by have := r.un; omega
section
variable {X : Cx} {E : XK}
theorem qv (i : Nat) {x : Str} {pos : Pos} (hN : X.N[i]? = some x := by rfl) (hv : Vis X.env.scope x := by first | exact Or.inl rfl | exact Or.inr (Or.inl rfl) | exact Or.inr (Or.inr rfl)) (hd : (x == ("__debug__" : Str)) = false := by decide) (hcd : (x == ("__classdict__" : Str)) = false := by decide) :
    QE X E (.Name x pos) (mVar i) := qe_var (pe_var hN hv hd hcd)
theorem qgn (i : Nat) {x : Str} {pos : Pos} (hN : X.N.Nodup) (hi : X.N[i]? = some x := by rfl) (hx : Loc X.env.scope x := by first | exact Or.inl rfl | exact Or.inr rfl) (hf : X.fn x = true ∨ X.env.scope.names.lookup x = some .local := by first | exact .inl rfl | exact .inr rfl) :
    QG X E (.Name x pos) (gN i) := qg_name (pg_name hN hi hx hf)
theorem tg_nm (i : Nat) {x : Str} {pos : Pos} (hN : X.N.Nodup) (hi : X.N[i]? = some x := by rfl) (hx : Loc X.env.scope x := by first | exact Or.inl rfl | exact Or.inr rfl) (hf : X.fn x = true ∨ X.env.scope.names.lookup x = some .local := by first | exact .inl rfl | exact .inr rfl) :
    PG X (.Name x pos) (rG X.K (.nm i)) := pg_name hN hi hx hf
theorem tgs_nil : PGs X [] (rGs X.K .nil) := pgs_nil
theorem tgs_cons {e : Expr} {es : List Expr} {t : Tg} {l : Tgs} (h1 : PG X e (rG X.K t)) (h2 : PGs X es (rGs X.K l)) (hs : (assignEach (e :: es) X.env).map (·.2) = assign e X.env :: (assignEach es X.env).map (·.2) := by rfl) : PGs X (e :: es) (rGs X.K (.cons t l)) := pgs_cons h1 h2 hs
theorem tg_tp {es : List Expr} {k : Nat} {pos : Pos} {l : Tgs} (hc : X.calm = true) (h : PGs X es (rGs X.K l)) (hn : (assignEach es X.env).length = l.len := by rfl) (hst : (assignEach es X.env).findIdx? (·.1) = none := by rfl) : PG X (.Tuple es k pos) (rG X.K (.tp l)) := pg_tup hc h hn hst
end

/-! ### an item of a new list; a slice as a sequence -/
def mIxL (ml : Rho → Store → R (List D)) (mb : Rho → Store → R D) : Rho → Store → R D := fun ρ st => (ml ρ st).bind fun ds s1 => (mb ρ s1).bind fun i s2 => match i with
  | .int k => (match atI ds k with
    | some d => .ok d s2
    | none => .bad)
  | _ => .bad
@[reducible] def slQ (d : D) (lo hi : Option Int) (st : Store) : R Sq := match d with
  | .tup l => .ok (true, cutD l lo hi) st
  | .ref n => (match st[n]? with
    | some (.lst l) => .ok (false, cutD l lo hi) st
    | _ => .bad)
  | .scr l => .ok (false, (cutD l lo hi).map .int) st
  | _ => .bad
def mQSl (m : Rho → Store → R D) (ml mh : Rho → Store → R (Option Int)) : Rho → Store → R Sq := fun ρ st => (m ρ st).bind fun d s1 => (ml ρ s1).bind fun lo s2 => (mh ρ s2).bind fun hi s3 => slQ d lo hi s3
section
variable {X : Cx} {E : XK}
theorem qe_subL {a b : Expr} {ml : Rho → Store → R (List D)} {mb : Rho → Store → R D} {pos : Pos} (ha : QL X E a ml) (hb : QE X E b mb) (hs : PlainIx b := by intro _ _; rfl) : QE X E (.Subscript a b pos) (mIxL ml mb) :=
  PE.imp (pe_ix ix_list ha hb hs) fun σ H Q h => by
    obtain ⟨π, ρ, st, he, hr, h⟩ := h
    refine ⟨π, ρ, st, he, hr, FinR.mono h.bindE fun ds π1 H1 st1 k1 r1 hf p vs hp np e1 hv => ?_⟩
    refine ⟨π1, ρ, st1, RelEnv.keep hr k1 he, r1, FinR.mono hf.bindE fun d π2 H2 st2 k2 r2 hf2 w hw => ?_⟩
    cases d with
    | int i =>
      dsimp only at hf2
      cases e : atI ds i with
      | none => rw [e] at hf2; exact hf2.elim
      | some d =>
        rw [e] at hf2
        obtain ⟨z, g1, g2⟩ := atI_V (Rvs.keep r1 k2 ds hv) e
        exact ⟨p, vs, i, z, rfl, hw, SqL.of (k2.old p _ e1 np).1, g1, FinR.ok r2 hf2 z g2⟩
    | _ => exact hf2.elim
def rSlQ (K : PySem.W.Frag) : V → Option Int → Option Int → Hp → VK → Prop := fun x lo hi H Q => ∃ π st d s, RelSt K π H st ∧ Rv K π H d x ∧ slQ d lo hi st = .ok s st ∧ ∀ H' v, (∃ p, H p = none ∧ ∃ o, H' = upd H p o) ∨ H' = H → SeqV K π H' v s → Q v H'
theorem sl_Q : SlR X (rSlQ X.K) := by
  intro pins s σ H x v vl vu lo hi sl Q I rx hs pl pu h
  obtain ⟨π, st, d, sq, hr, hd, e, h⟩ := h
  unfold slQ at e
  split at e
  · rename_i l
    cases e
    obtain ⟨a, vs, rfl, hq, hvs⟩ := hd
    refine sl_tupA pins s σ H _ v vl vu lo hi sl Q I rx hs pl pu ⟨a, vs, rfl, SqT.of hq, fun ⟨w1, w2⟩ => ?_, fun _ p hp => ?_⟩
    · refine h H (.ref a) (.inr rfl) ⟨a, vs, rfl, SqT.of hq, ?_⟩
      have z : cutD l lo hi = l := by
        unfold cutD
        rw [hvs.length, w1, w2, List.drop_zero, Nat.sub_zero, ← hvs.length, List.take_length]
      show Rvs X.K π H (cutD l lo hi) vs
      rw [z]; exact hvs
    · have kn := keep_new (o := .tup (cutV vs lo hi)) hr hp
      exact h _ (.ref p) (.inl ⟨p, hp, _, rfl⟩) ⟨p, _, rfl, SqT.of upd_same, (Rvs.keep hr kn l hvs).cut lo hi⟩
  · split at e
    · rename_i n _ l e1
      cases e
      obtain ⟨a, vs, _, rfl, ha, hvs⟩ := Rv.ref_lst hr hd e1
      refine sl_list pins s σ H _ v vl vu lo hi sl Q I rx hs pl pu ⟨a, vs, rfl, SqL.of ha, fun p hp => ?_⟩
      have kn := keep_new (o := .lst (cutV vs lo hi)) hr hp
      exact h _ (.ref p) (.inl ⟨p, hp, _, rfl⟩) ⟨p, _, rfl, SqL.of upd_same, (Rvs.keep hr kn l hvs).cut lo hi⟩
    · cases e
  · rename_i l
    cases e
    obtain ⟨a, rfl, hq⟩ := hd
    refine sl_list pins s σ H _ v vl vu lo hi sl Q I rx hs pl pu ⟨a, _, rfl, hq.sq, fun p hp => ?_⟩
    have z : (cutD l lo hi).map D.int = cutD (l.map D.int) lo hi := by unfold cutD; simp [List.map_take, List.map_drop]
    refine h _ (.ref p) (.inl ⟨p, hp, _, rfl⟩) ⟨p, _, rfl, SqL.of upd_same, ?_⟩
    show Rvs X.K π _ ((cutD l lo hi).map D.int) _
    rw [z]
    exact (Rvs.ints (ns := l)).cut lo hi
  · cases e
theorem slQ_same {d : D} {lo hi : Option Int} {st : Store} : slQ d lo hi st = .bad ∨ ∃ s, slQ d lo hi st = .ok s st := by
  unfold slQ
  split
  · exact .inr ⟨_, rfl⟩
  · split
    · exact .inr ⟨_, rfl⟩
    · exact .inl rfl
  · exact .inr ⟨_, rfl⟩
  · exact .inl rfl
theorem qq_slice {e : Expr} {lo hi : Option Expr} {m : Rho → Store → R D} {ml mh : Rho → Store → R (Option Int)} {p2 pos : Pos} (he : QE X E e m) (hl : QO X E lo ml) (hh : QO X E hi mh) : QQ X E (.Subscript e (.Slice lo hi none p2) pos) (mQSl m ml mh) :=
  PE.imp (pe_slice sl_Q he hl hh) fun σ H Q h => by
    obtain ⟨π, ρ, st, he, hr, h⟩ := h
    refine ⟨π, ρ, st, he, hr, FinR.mono h.bindE fun d π1 H1 st1 k1 r1 hf v hv => ?_⟩
    have he1 := RelEnv.keep hr k1 he
    refine ⟨π1, ρ, st1, he1, r1, FinR.mono hf.bindE fun lo' π2 H2 st2 k2 r2 hf2 => ?_⟩
    refine ⟨π2, ρ, st2, RelEnv.keep r1 k2 he1, r2, FinR.mono hf2.bindE fun hi' π3 H3 st3 k3 r3 hf3 => ?_⟩
    rcases slQ_same (d := d) (lo := lo') (hi := hi') (st := st3) with e | ⟨s, e⟩
    · rw [e] at hf3; exact hf3.elim
    · rw [e] at hf3
      refine ⟨π3, st3, d, s, r3, Rv.keep r2 k3 d (Rv.keep r1 k2 d hv), e, fun H' w hH hw => ?_⟩
      rcases hH with ⟨p, hp, o, rfl⟩ | rfl
      · exact hf3 π3 _ (keep_new r3 hp) (r3.new hp) w hw
      · exact hf3 π3 _ Keep.refl r3 w hw
end
end RQ

/-! S16: mirrors evaluated step by step. -/
namespace RQ
open PySem L2 RZ
section
variable {ρ ρ1 ρ2 : Rho} {st s1 s2 s3 : Store} {d a b c : D} {ds es : List D} {m n : MS} {ma mb me : Rho → Store → R D} {ms : Rho → Store → R (List D)} {mt mu : Rho → Store → R Bool} {f : D → D → Store → B} {g : List D → Store → B} {k : Bool} {r : RS} {i N : Nat} {tg : MG} {fn : FD} {t : Bool} {l : List D}
theorem ev_var (h : ρ[i]? = some (some d) := by rfl) : mVar i ρ st = .ok d st := by
  unfold mVar
  rw [h]
theorem ev_c : mC d ρ st = .ok d st := rfl
theorem ev_bin (h1 : ma ρ st = .ok a s1) (h2 : mb ρ s1 = .ok b s2) (h3 : f a b s2 = some (d, s3)) : mBin f ma mb ρ st = .ok d s3 := by
  unfold mBin
  rw [h1]
  show R.bind (mb ρ s1) _ = _
  rw [h2]
  show ofB (f a b s2) = _
  rw [h3]
theorem ev_un {f : D → Store → B} (h1 : ma ρ st = .ok a s1) (h3 : f a s1 = some (d, s3)) : mUn f ma ρ st = .ok d s3 := by
  unfold mUn
  rw [h1]
  show ofB (f a s1) = _
  rw [h3]
theorem ev_t (h : me ρ st = .ok (.bl k) s1) : mT me ρ st = .ok k s1 := by
  unfold mT
  rw [h]
theorem ev_not (h : mt ρ st = .ok k s1) : mNot mt ρ st = .ok (!k) s1 := by
  unfold mNot
  rw [h]
theorem ev_andT {q : R Bool} (h : mt ρ st = .ok true s1) (h2 : mu ρ s1 = q) : mAnd mt mu ρ st = q := by
  unfold mAnd
  rw [h]
  exact h2
theorem ev_andF (h : mt ρ st = .ok false s1) : mAnd mt mu ρ st = .ok false s1 := by
  unfold mAnd
  rw [h]; rfl
theorem ev_orF {q : R Bool} (h : mt ρ st = .ok false s1) (h2 : mu ρ s1 = q) : mOr mt mu ρ st = q := by
  unfold mOr
  rw [h]
  exact h2
theorem ev_orT (h : mt ρ st = .ok true s1) : mOr mt mu ρ st = .ok true s1 := by
  unfold mOr
  rw [h]; rfl
theorem ev_ifET {q : R D} (h : mt ρ st = .ok true s1) (h2 : ma ρ s1 = q) : mIfE mt ma mb ρ st = q := by
  unfold mIfE
  rw [h]
  exact h2
theorem ev_ifEF {q : R D} (h : mt ρ st = .ok false s1) (h2 : mb ρ s1 = q) : mIfE mt ma mb ρ st = q := by
  unfold mIfE
  rw [h]
  exact h2
theorem ev_nil : mNil ρ st = .ok [] st := rfl
theorem ev_cons (h1 : me ρ st = .ok d s1) (h2 : ms ρ s1 = .ok ds s2) : mCons me ms ρ st = .ok (d :: ds) s2 := by
  unfold mCons
  rw [h1]
  show R.bind (ms ρ s1) _ = _
  rw [h2]
theorem ev_B (h1 : ms ρ st = .ok ds s1) (h2 : g ds s1 = some (d, s2)) : mB g ms ρ st = .ok d s2 := by
  unfold mB
  rw [h1]
  show ofB (g ds s1) = _
  rw [h2]
theorem ev_args (h1 : ms ρ st = .ok ds s1) (h2 : ds.length = N := by rfl) : mArgs N ms ρ st = .ok ds s1 := by
  unfold mArgs
  rw [h1]
  exact if_pos h2
theorem ev_call {q : R D} (h1 : ms ρ st = .ok ds s1) (h2 : fn ds s1 = q) : mCall fn ms ρ st = q := by
  unfold mCall
  rw [h1]
  exact h2
theorem ev_lst (h1 : ms ρ st = .ok ds s1) (h2 : small ds.length = true := by rfl) : mLst ms ρ st = .ok ds s1 := by
  unfold mLst
  rw [h1]
  exact if_pos h2
theorem ev_tup (h1 : ms ρ st = .ok ds s1) (h2 : small ds.length = true := by rfl) : mTup ms ρ st = .ok (.tup ds) s1 := by
  unfold mTup
  rw [h1]
  exact if_pos h2
theorem ev_new (h1 : ms ρ st = .ok ds s1) : mNew ms ρ st = .ok (.ref s1.length) (s1 ++ [.lst ds]) := by
  unfold mNew
  rw [h1]
theorem ev_ixL {j : Int} (h1 : ms ρ st = .ok ds s1) (h2 : mb ρ s1 = .ok (.int j) s2) (h3 : atI ds j = some d) : mIxL ms mb ρ st = .ok d s2 := by
  unfold mIxL
  rw [h1]
  show R.bind (mb ρ s1) _ = _
  rw [h2]
  show (match atI ds j with | some d => R.ok d s2 | none => .bad) = _
  rw [h3]
theorem ev_CQ {mq : Rho → Store → R Sq} {g : Sq → Store → B} {q : Sq} (h1 : mq ρ st = .ok q s1) (h2 : g q s1 = some (d, s2)) : mCQ g mq ρ st = .ok d s2 := by
  unfold mCQ
  rw [h1]
  show ofB (g q s1) = _
  rw [h2]
theorem ev_QE {q : Sq} (h1 : me ρ st = .ok d s1) (h2 : seqD d s1 = .ok q s1) : mQE me ρ st = .ok q s1 := by
  unfold mQE
  rw [h1]
  exact h2
theorem ev_QL (h1 : ms ρ st = .ok ds s1) : mQL ms ρ st = .ok (false, ds) s1 := by
  unfold mQL
  rw [h1]
theorem seqD_ref (h : st[i]? = some (.lst l)) : seqD (.ref i) st = .ok (false, l) st := by
  show (match st[i]? with | some (.lst l) => R.ok (false, l) st | _ => .bad) = _
  rw [h]
/-! statements -/
theorem ev_seq (h1 : m ρ st = .nx ρ1 s1) (h2 : n ρ1 s1 = r) : mSeq m n ρ st = r := by
  unfold mSeq
  rw [h1]
  exact h2
theorem ev_seqR (h1 : m ρ st = .rt d s1) : mSeq m n ρ st = .rt d s1 := by
  unfold mSeq
  rw [h1]
theorem ev_next : mNext ρ st = .nx ρ st := rfl
theorem ev_ret (h : me ρ st = .ok d s1) : mRet me ρ st = .rt d s1 := by
  unfold mRet
  rw [h]
theorem ev_drop (h : me ρ st = .ok d s1) : mDrop me ρ st = .nx ρ s1 := by
  unfold mDrop
  rw [h]
theorem ev_asg (h : me ρ st = .ok d s1) (h2 : tg d ρ s1 = .ok ρ1 s2) : mAsg me tg ρ st = .nx ρ1 s2 := by
  unfold mAsg
  rw [h]
  show R.toS (tg d ρ s1) _ = _
  rw [h2]
theorem ev_gN : gN i d ρ st = .ok (ρ.set i (some d)) st := rfl
theorem ev_gS (h1 : ma ρ st = .ok a s1) (h2 : mb ρ s1 = .ok b s2) (h3 : bSet a b d s2 = some s3) : gS ma mb d ρ st = .ok ρ s3 := by
  unfold gS
  rw [h1]
  show R.bind (mb ρ s1) _ = _
  rw [h2]
  show (match bSet a b d s2 with | some s3 => R.ok ρ s3 | none => .bad) = _
  rw [h3]
theorem ev_ifT (h : mt ρ st = .ok true s1) (h2 : m ρ s1 = r) : mIf mt m n ρ st = r := by
  unfold mIf
  rw [h]
  exact h2
theorem ev_ifF (h : mt ρ st = .ok false s1) (h2 : n ρ s1 = r) : mIf mt m n ρ st = r := by
  unfold mIf
  rw [h]
  exact h2
theorem ev_def (h : m (ds.map some ++ List.replicate (N - ds.length) none) st = .rt d s1) : mDef N m ds st = .ok d s1 := by
  unfold mDef
  rw [h]
/-! what a built-in gives -/
theorem b_ix {j : Int} (h : st[i]? = some (.lst l)) (h2 : atI l j = some d) : bIx (.ref i) (.int j) st = some (d, st) := by
  dsimp only [bIx]
  rw [h]
  show (atI l j).map (fun d => (d, st)) = _
  rw [h2]; rfl
theorem b_set {j : Int} {p : Nat} (h : st[i]? = some (.lst l)) (h2 : ixN l.length j = some p) : bSet (.ref i) (.int j) d st = some (st.set i (.lst (l.set p d))) := by
  dsimp only [bSet]
  rw [h]
  show (ixN l.length j).map _ = _
  rw [h2]; rfl
variable {x y : Int}
theorem b_gt : bGt0 (.int x) (.int y) st = some (.bl (decide (y < x)), st) := rfl
theorem b_lt : bLt0 (.int x) (.int y) st = some (.bl (decide (x < y)), st) := rfl
theorem b_le : bLe0 (.int x) (.int y) st = some (.bl (decide (x ≤ y)), st) := rfl
theorem b_ge : bGe0 (.int x) (.int y) st = some (.bl (decide (y ≤ x)), st) := rfl
theorem b_add : bAdd (.int x) (.int y) st = some (.int (x + y), st) := rfl
theorem b_sub : bSub (.int x) (.int y) st = some (.int (x - y), st) := rfl
theorem b_mod (h : 0 < y) : bMod (.int x) (.int y) st = some (.int (x % y), st) := if_pos (decide_eq_true h)
theorem b_div (h : 0 < y) (h2 : y < 1073741824) : bDiv (.int x) (.int y) st = some (.int (x / y), st) := if_pos (decide_eq_true ⟨h, h2⟩)
theorem b_mulL (h : fits64 x = true) : bMul (.int x) (.int y) st = some (.int (x * y), st) := if_pos (by rw [h, Bool.true_or])
theorem b_mulR (h : fits64 y = true) : bMul (.int x) (.int y) st = some (.int (x * y), st) := if_pos (by rw [h, Bool.or_true])
theorem b_pow (h : 0 ≤ y) (h2 : (Builtin.Int.intBits x : Int) * y ≤ 2 ^ 27) : bPow (.int x) (.int y) st = some (.int (x ^ y.toNat), st) := if_pos (decide_eq_true ⟨h, h2⟩)
theorem b_int : bInt [.int x] st = some (.int x, st) := rfl
theorem b_intB : bInt [.bl k] st = some (.int (if k then 1 else 0), st) := rfl
theorem b_abs : bAbs [.int x] st = some (.int (if x < 0 then -x else x), st) := rfl
theorem fits_of (h1 : 0 ≤ x) (h2 : x < 2 ^ 64) : fits64 x = true := decide_eq_true ⟨by omega, h2⟩
theorem bits_of (h1 : 0 ≤ x) (h2 : x < 2 ^ 64) : Builtin.Int.intBits x ≤ 64 := intBits_le_64 (by omega) h2
theorem get_set {n : Nat} {c c' : Cell} (h : st[n]? = some c) : (st.set n c')[n]? = some c' := by
  rw [List.getElem?_set_self (List.getElem?_eq_some_iff.mp h).1]
theorem get_app {n : Nat} {c c' : Cell} (h : st[n]? = some c) : (st ++ [c'])[n]? = some c := by
  rw [List.getElem?_append_left (List.getElem?_eq_some_iff.mp h).1]; exact h
theorem get_last {c' : Cell} : (st ++ [c'])[st.length]? = some c' := by simp
end
end RQ

/-! S17: a law's end, from its def by name. -/
namespace RQ
open PySem PySem.Spec PyProof.Rows L2 RZ
/-! ### a law's end -/
/-- the law's def at a list of ints -/
theorem law_goC {P : Program} {w : World} {K : PySem.W.Frag} {mg mb : Str → Option Value} {k : Nat} {fa a : Addr} {x : Str} {fn : FD} {s₁ : Shared} {vs : List Value} {ns : List Int}
    (kin : K.In s₁.heap) (gl : s₁.heap.Ns mainGlobals mg) (bl : s₁.heap.Ns builtinsNs mb) (boot : ∀ x : Str, x ≠ "__name__" → mb x = bootBuiltins x) (lim : s₁.heap.NoLimit) (gens : s₁.gens = #[])
    (obj : s₁.heap.get? a = some { cls := .type "list", data := .seq vs.toArray }) (hin : IntsAre vs ns) (few : ns.length ≤ sizeLine) (room : Room k callerA)
    (C : ∀ base : Heap, K.In base → base.Ns mainGlobals mg → Cal P w K mg base k x 1 fn) (hmg : mg x = some (.ref fa)) (hfn : ∃ st, fn [.scr ns] [] = .ok (.bl true) st) :
    codeAny (model P w) callerA (.call (.ref fa) ⟨[.ref a], []⟩) (fun r s' => r = .ok (.ret (.bool true)) ∧ OldK s₁.heap s'.heap ∧ s'.os = s₁.os ∧ AllBare s'.gens) s₁ := by
  have go : ∀ H : Hp, SqF K H a (ns.map V.int) → HOk P w H s₁.heap → (∀ b u, H b = some u → b = a ∧ K.lookup a = none ∧ ∃ ob xs, u = .frz ob (.lst xs)) →
      codeAny (model P w) callerA (.call (.ref fa) ⟨[.ref a], []⟩) (fun r s' => r = .ok (.ret (.bool true)) ∧ OldK s₁.heap s'.heap ∧ s'.os = s₁.os ∧ AllBare s'.gens) s₁ := by
    intro H sq hok only
    -- what is no list is not told
    have free : ∀ {b : Addr} {o : Obj} {es : Array DictEntry} {ep : Nat}, s₁.heap.get? b = some o → o.data = .dict es ep → H b = none := by
      intro b o es ep e1 e2
      cases z : H b with
      | none => rfl
      | some u =>
        obtain ⟨rfl, _⟩ := only b u z
        have e3 := Option.some.inj (obj.symm.trans e1)
        rw [← e3] at e2
        cases e2
    have stays : ∀ {b : Addr} {m : Str → Option Value}, s₁.heap.Ns b m → (hidT s₁.heap H).Ns b m := by
      rintro b m ⟨o, es, ep, e1, e2, e3⟩
      exact ⟨o, es, ep, hidT_get e1 (free e1 e2), e2, e3⟩
    have kin' : K.In (hidT s₁.heap H) := by
      intro b o e
      refine hidT_get (kin b o e) ?_
      cases z : H b with
      | none => rfl
      | some u =>
        obtain ⟨rfl, e2, _⟩ := only b u z
        rw [e2] at e
        cases e
    obtain ⟨mc, lim1, lim2⟩ := lim
    have e0 : Env0 P w K mg (hidT s₁.heap H) callerA [] s₁ H :=
      { frames := rfl, mod := ⟨kin', stays gl, ⟨mb, stays bl, boot⟩, ⟨mc, stays lim1, lim2⟩⟩, bs := fun b o e => of_hidT e, bsz := Nat.le_of_eq (hidT_size _ _), funs := trivial, frf := fun b z => absurd (show b ∈ ([] : List Addr) from z) List.not_mem_nil, hok := hok, bare := .of_eq gens }
    obtain ⟨stF, hF⟩ := hfn
    have spec : LF K 1 fn [.ref a] H (fun v _ => v = .bl true) fun _ _ _ => False := by
      refine ⟨[], [.scr ns], [], rfl, ⟨.ref a, [], rfl, ⟨a, rfl, sq⟩, rfl⟩, ⟨rfl, List.nodup_nil, fun n c e => by simp at e⟩, ?_⟩
      rw [hF]
      exact fun _ _ _ _ v hv => hv
    obtain ⟨f, fd, ps, FG, ef, _, hb⟩ := (C _ kin' (stays gl)).ex
    rw [hmg] at ef
    cases ef
    have len := FG.few _ _ _ _ spec
    refine codeAny_mono (FG.goes callerA [] s₁ H ⟨[.ref a], []⟩ [.ref a] [.ref a] _ _ room rfl e0 (hb s₁ [.ref a] kin len) (.cons rfl .nil) spec) fun res s2 z => ?_
    match res, z with
    | .error e, z =>
      obtain ⟨_, _, _, _, _, _, _, _, _, _, _, _, z⟩ := z
      exact z.elim
    | .ok .next, z => exact z.elim
    | .ok .brk, z => exact z.elim
    | .ok .cont, z => exact z.elim
    | .ok (.ret u), z =>
      obtain ⟨v, H2, os, bare, un, hok2, rv, (rfl : v = .bl true)⟩ := z
      obtain rfl : u = Value.bool true := rv
      refine ⟨rfl, OldK.of_keep fun b o e => ?_, os, bare⟩
      cases z : H b with
      | none => exact un.keep b o e z (fun y => absurd (show b ∈ ([] : List Addr) from y) List.not_mem_nil) List.not_mem_nil
      | some u =>
        obtain ⟨_, _, ob, xs, rfl⟩ := only b u z
        obtain ⟨g1, _⟩ := hok b _ z
        obtain ⟨g2, _⟩ := hok2 b _ (un.frzs b ob _ z)
        rw [← Option.some.inj (g1.symm.trans e)]
        exact g2
  have rel := vals_ints hin
  cases z : K.lookup a with
  | some o =>
    have e := Option.some.inj (obj.symm.trans (kin a o z))
    refine go (fun _ => none) (.inr ⟨o, vs.toArray, 0, z, by rw [← e], by rw [← e], by rw [← e], ?_, by simpa using rel⟩) (fun b u y => by cases y) (fun b u y => by cases y)
    rw [List.size_toArray, ← rel.length, List.length_map]
    exact few
  | none =>
    generalize ho : ({ cls := .type "list", data := .seq vs.toArray } : Obj) = ob at obj
    refine go (upd (fun _ => none) a (.frz ob (.lst (ns.map V.int)))) (.inl ⟨ob, upd_same⟩) (fun b u y => ?_) (fun b u y => ?_)
    · by_cases hb : b = a
      · subst hb
        rw [upd_same] at y
        cases y
        exact ⟨obj, by rw [List.length_map]; exact few, vs, _, rel, by rw [obj, ← ho]⟩
      · rw [upd_ne hb] at y
        cases y
    · by_cases hb : b = a
      · subst hb
        rw [upd_same] at y
        cases y
        exact ⟨rfl, z, _, _, rfl⟩
      · rw [upd_ne hb] at y
        cases y
/-- over a head by facts -/
theorem law_endC {l : PySem.W.OpenLaw} {n k : Nat} {q : Program} {loose : List Str} {XP : (Str → Option Value) → Heap → Prop} {YP : World → Heap → Prop} {d : DefRec} {fn : FD} (hn : l.most = some n) (hn2 : n ≤ sizeLine) (hdf : d.params.defaults = []) (room : Room k callerA)
    (F : ∀ (w : World) (mg : Str → Option Value) (h : Heap), YP w h → h.Ns mainGlobals mg → ∃ K : PySem.W.Frag, K.In h ∧ ∀ base : Heap, K.In base → base.Ns mainGlobals mg → Cal l.prog w K mg base k d.name 1 fn)
    (hfn : ∀ ns : List Int, ns.length ≤ n → ∃ st, fn [.scr ns] [] = .ok (.bl true) st) : PySem.W.WalkO q loose XP YP l.row.toRowW d [] (fun f vs => PySem.call f vs) := by
  refine Att.attach_call hn hdf fun w s₀ s₁ mg mb fa o pm cd doc a vs ns G Y ho hd hcd hmg hobj hints hlen hg => ?_
  obtain ⟨K, kin, C⟩ := F w mg _ Y G.T.g
  exact law_goC kin G.T.g G.T.b G.T.builtins G.T.nolimit hg hobj hints (Nat.le_trans hlen hn2) room C hmg (hfn ns hlen)
end RQ

namespace Gk68
open PySem PySem.Spec L2 RZ RQ
abbrev FnP (K : PySem.W.Frag) (x : Str) (st : Stmt) (f : Addr) (fd : FuncData) : Prop := FunD K x x (defArgs st) (defBody st) (defScope st) [] [] f fd
structure Fre (mg : Str → Option Value) : Prop where
  ValueError_ : mg "ValueError" = none
  abs_ : mg "abs" = none
  all_ : mg "all" = none
  enumerate_ : mg "enumerate" = none
  int_ : mg "int" = none
  isinstance_ : mg "isinstance" = none
  len_ : mg "len" = none
  list_ : mg "list" = none
  max_ : mg "max" = none
  min_ : mg "min" = none
  range_ : mg "range" = none
  repr_ : mg "repr" = none
  sum_ : mg "sum" = none
def top (i : Nat) : Stmt := PySem.Challenge.pw_roadqueues_k68_errors_keep_any_value.main.body.getD i (.Pass ⟨0, 0, 0, 0⟩)
abbrev s_law_cells : Stmt := top 37
def N_law_cells : List Str := ["script", "most"]
theorem sc_law_cells : FnScope N_law_cells ["script", "most"] (defScope s_law_cells) := ⟨rfl, rfl, rfl, by decide +kernel, rfl, by decide +kernel, by decide +kernel⟩
def m_law_cells : MS := (mRet (mNew (mLR (mC (.int 0)) (mB bMax2 (mCons (mC (.int 1)) (mCons (mB bMin2 (mCons (mVar 1) (mCons (mCQ gLen (mQE (mVar 0))) mNil))) mNil))))))
def f_law_cells : FD := mDef 2 (m_law_cells)
theorem ok_law_cells {P : Program} {w : World} {K : PySem.W.Frag} {mg : Str → Option Value} {base : Heap} {f : Addr} {fd : FuncData} (F : FnP K "_law_cells" s_law_cells f fd) (hmg : mg "_law_cells" = some (.ref f)) (G : Fre mg)  : Cal P w K mg base 1 "_law_cells" 2 (f_law_cells) := by
  have S_ := sc_law_cells
  refine Cal.of F hmg (F.bindsN fun _ _ _ _ _ _ us hl => match us, hl with | [_, _], _ => rfl) S_ rfl rfl fun cdv A outer s H E room gd => ?_
  have tk := takes_of (X := cxOf (L2.CX P w) P w K mg base N_law_cells "_law_cells" (defScope s_law_cells) f cdv A outer s H E) (E := E) rfl rfl rfl rfl
  have hx : Passes (L2.CX P w) (cxOf (L2.CX P w) P w K mg base N_law_cells "_law_cells" (defScope s_law_cells) f cdv A outer s H E) E := passes_call tk fun _ _ _ _ h => h
  exact (qs_one (qs_ret (qe_new (ql_listR1 rfl G.list_ G.range_ (qe_callB (cr_max2 rfl) G.max_ (by kernel_rfl) (qa_cons qe_int (qa_cons (qe_callB (cr_min2 rfl) G.min_ (by kernel_rfl) (qa_cons (qv 1) (qa_cons (qe_callQ (cq_len) G.len_ (by kernel_rfl) (qq_e (qv 0))) qa_nil))) qa_nil)))))))
abbrev s_law_take : Stmt := top 35
def N_law_take : List Str := ["pot", "upto", "prime", "blend", "digit"]
theorem sc_law_take : FnScope N_law_take ["pot", "upto"] (defScope s_law_take) := ⟨rfl, rfl, rfl, by decide +kernel, rfl, by decide +kernel, by decide +kernel⟩
def m_law_take : MS := (mSeq (mIf (mT (mBin bGt0 (mBin bIx (mVar 0) (mC (.int 0))) (mC (.int 0)))) (mSeq (mAsg (mBin bMod (mB bInt (mCons (mBin bIx (mVar 0) (mC (.int 0))) mNil)) (mVar 1)) (gN 4)) (mSeq (mAsg (mBin bDiv (mBin bIx (mVar 0) (mC (.int 0))) (mVar 1)) (gS (mVar 0) (mC (.int 0)))) (mRet (mVar 4)))) mNext) (mSeq (mAsg (mBin bAdd (mBin bIx (mVar 0) (mC (.int 2))) (mC (.int 1))) (gS (mVar 0) (mC (.int 2)))) (mSeq (mAsg (mIxL (mLst (mCons (mC (.int 2147483647)) (mCons (mC (.int 2147483629)) (mCons (mC (.int 2147483587)) (mCons (mC (.int 2147483579)) (mCons (mC (.int 2147483563)) mNil)))))) (mBin bMod (mB bInt (mCons (mBin bIx (mVar 0) (mC (.int 2))) mNil)) (mC (.int 5)))) (gN 2)) (mSeq (mAsg (mBin bMod (mB bInt (mCons (mBin bPow (mB bInt (mCons (mBin bAdd (mBin bAdd (mBin bIx (mVar 0) (mC (.int 1))) (mBin bMul (mBin bMul (mC (.int 98363)) (mBin bIx (mVar 0) (mC (.int 2)))) (mBin bIx (mVar 0) (mC (.int 2))))) (mC (.int 431))) mNil)) (mC (.int 3))) mNil)) (mVar 2)) (gN 3)) (mSeq (mAsg (mBin bMod (mB bInt (mCons (mBin bMul (mVar 3) (mBin bAdd (mBin bMod (mB bInt (mCons (mVar 3) mNil)) (mC (.int 10009))) (mBin bMul (mC (.int 89)) (mBin bIx (mVar 0) (mC (.int 2)))))) mNil)) (mC (.int 2305843009213693907))) (gN 3)) (mRet (mBin bMod (mB bInt (mCons (mBin bDiv (mVar 3) (mC (.int 173))) mNil)) (mVar 1))))))))
def f_law_take : FD := mDef 5 (m_law_take)
theorem ok_law_take {P : Program} {w : World} {K : PySem.W.Frag} {mg : Str → Option Value} {base : Heap} {f : Addr} {fd : FuncData} (F : FnP K "_law_take" s_law_take f fd) (hmg : mg "_law_take" = some (.ref f)) (G : Fre mg)  : Cal P w K mg base 1 "_law_take" 2 (f_law_take) := by
  have S_ := sc_law_take
  refine Cal.of F hmg (F.bindsN fun _ _ _ _ _ _ us hl => match us, hl with | [_, _], _ => rfl) S_ rfl rfl fun cdv A outer s H E room gd => ?_
  have tk := takes_of (X := cxOf (L2.CX P w) P w K mg base N_law_take "_law_take" (defScope s_law_take) f cdv A outer s H E) (E := E) rfl rfl rfl rfl
  have hx : Passes (L2.CX P w) (cxOf (L2.CX P w) P w K mg base N_law_take "_law_take" (defScope s_law_take) f cdv A outer s H E) E := passes_call tk fun _ _ _ _ h => h
  exact (qs_cons (qs_if (qt_cmp os_gt0 (qe_sub (hu1 room) (qv 0) qe_int) qe_int (nomark _)) (qs_cons (qs_asg (qe_bin os_mod (qe_callTy cr_int G.int_ (by kernel_rfl) (qa_cons (qe_sub (hu1 room) (qv 0) qe_int) qa_nil)) (qv 1)) (qgn 4 S_.nd)) (qs_cons (qs_asg (qe_bin os_div (qe_sub (hu1 room) (qv 0) qe_int) (qv 1)) (qg_sub (hu1 room) (qv 0) qe_int)) (qs_one (qs_ret (qv 4))))) qs_nil) (qs_cons (qs_asg (qe_bin os_add (qe_sub (hu1 room) (qv 0) qe_int) qe_int) (qg_sub (hu1 room) (qv 0) qe_int)) (qs_cons (qs_asg (qe_subL (ql_lst (qa_cons qe_int (qa_cons qe_int (qa_cons qe_int (qa_cons qe_int (qa_cons qe_int qa_nil)))))) (qe_bin os_mod (qe_callTy cr_int G.int_ (by kernel_rfl) (qa_cons (qe_sub (hu1 room) (qv 0) qe_int) qa_nil)) qe_int)) (qgn 2 S_.nd)) (qs_cons (qs_asg (qe_bin os_mod (qe_callTy cr_int G.int_ (by kernel_rfl) (qa_cons (qe_bin os_pow (qe_callTy cr_int G.int_ (by kernel_rfl) (qa_cons (qe_bin os_add (qe_bin os_add (qe_sub (hu1 room) (qv 0) qe_int) (qe_bin os_mul (qe_bin os_mul qe_int (qe_sub (hu1 room) (qv 0) qe_int)) (qe_sub (hu1 room) (qv 0) qe_int))) qe_int) qa_nil)) qe_int) qa_nil)) (qv 2)) (qgn 3 S_.nd)) (qs_cons (qs_asg (qe_bin os_mod (qe_callTy cr_int G.int_ (by kernel_rfl) (qa_cons (qe_bin os_mul (qv 3) (qe_bin os_add (qe_bin os_mod (qe_callTy cr_int G.int_ (by kernel_rfl) (qa_cons (qv 3) qa_nil)) qe_int) (qe_bin os_mul qe_int (qe_sub (hu1 room) (qv 0) qe_int)))) qa_nil)) qe_int) (qgn 3 S_.nd)) (qs_one (qs_ret (qe_bin os_mod (qe_callTy cr_int G.int_ (by kernel_rfl) (qa_cons (qe_bin os_div (qv 3) qe_int) qa_nil)) (qv 1)))))))))
abbrev s_law_of : Stmt := top 36
def N_law_of : List Str := ["pot", "some"]
theorem sc_law_of : FnScope N_law_of ["pot", "some"] (defScope s_law_of) := ⟨rfl, rfl, rfl, by decide +kernel, rfl, by decide +kernel, by decide +kernel⟩
def m_law_of (g_law_take : FD) : MS := (mRet (mBin bIx (mVar 1) (mCall g_law_take (mArgs 2 (mCons (mVar 0) (mCons (mCQ gLen (mQE (mVar 1))) mNil))))))
def f_law_of (g_law_take : FD) : FD := mDef 2 (m_law_of g_law_take)
theorem ok_law_of {P : Program} {w : World} {K : PySem.W.Frag} {mg : Str → Option Value} {base : Heap} {f : Addr} {fd : FuncData} (F : FnP K "_law_of" s_law_of f fd) (hmg : mg "_law_of" = some (.ref f)) (G : Fre mg) {g_law_take : FD} (c_law_take : Cal P w K mg base 1 "_law_take" 2 g_law_take) : Cal P w K mg base 2 "_law_of" 2 (f_law_of g_law_take) := by
  have S_ := sc_law_of
  refine Cal.of F hmg (F.bindsN fun _ _ _ _ _ _ us hl => match us, hl with | [_, _], _ => rfl) S_ rfl rfl fun cdv A outer s H E room gd => ?_
  have tk := takes_of (X := cxOf (L2.CX P w) P w K mg base N_law_of "_law_of" (defScope s_law_of) f cdv A outer s H E) (E := E) rfl rfl rfl rfl
  have hx : Passes (L2.CX P w) (cxOf (L2.CX P w) P w K mg base N_law_of "_law_of" (defScope s_law_of) f cdv A outer s H E) E := passes_call tk fun _ _ _ _ h => h
  exact (qs_one (qs_ret (qe_sub (hu1 room) (qv 1) (qe_call (c_law_take.up (by decide)) room gd hx (qa_cons (qv 0) (qa_cons (qe_callQ (cq_len) G.len_ (by kernel_rfl) (qq_e (qv 1))) qa_nil))))))
abbrev s_law_odd : Stmt := top 38
def N_law_odd : List Str := ["pot", "some"]
theorem sc_law_odd : FnScope N_law_odd ["pot"] (defScope s_law_odd) := ⟨rfl, rfl, rfl, by decide +kernel, rfl, by decide +kernel, by decide +kernel⟩
def m_law_odd (g_law_of : FD) : MS := (mSeq (mAsg (mNew (mLst (mCons (mC .non) (mCons (mC (.bl true)) (mCons (mC (.bl false)) (mCons (mC (.int 0)) (mCons (mUn bNeg (mC (.int 1))) (mCons (mC (.str "")) (mCons (mC (.str "A")) (mCons (mTup mNil) (mCons (mNew (mLst mNil)) (mCons (mDisp mPnil) (mCons (mTup (mCons (mTup mNil) mNil)) (mCons (mTup (mCons (mC .non) mNil)) (mCons (mNew (mLst (mCons (mC (.int 0)) mNil))) (mCons (mTup (mCons (mC (.int 0)) mNil)) (mCons (mTup (mCons (mC (.str "a")) mNil)) (mCons (mTup (mCons (mC (.int 1)) (mCons (mC (.int 2)) mNil))) (mCons (mTup (mCons (mC (.int 1)) (mCons (mC (.int 2)) (mCons (mC (.bl true)) mNil)))) mNil))))))))))))))))))) (gN 1)) (mRet (mCall g_law_of (mArgs 2 (mCons (mVar 0) (mCons (mBin bAdd (mVar 1) (mNew (mLst (mCons (mTup (mCons (mC (.int 1)) (mCons (mC (.int 2)) (mCons (mC (.str "1")) mNil)))) (mCons (mC (.str "eldest")) (mCons (mTup (mCons (mTup (mCons (mC (.int 1)) (mCons (mC (.int 2)) (mCons (mC (.int 1)) mNil)))) mNil)) (mCons (mDisp (mPcons (mC (.str "a")) (mC (.int 1)) mPnil)) (mCons (mTup (mCons (mC (.int 0)) (mCons (mC (.str "a")) mNil))) mNil)))))))) mNil))))))
def f_law_odd (g_law_of : FD) : FD := mDef 2 (m_law_odd g_law_of)
theorem ok_law_odd {P : Program} {w : World} {K : PySem.W.Frag} {mg : Str → Option Value} {base : Heap} {f : Addr} {fd : FuncData} (F : FnP K "_law_odd" s_law_odd f fd) (hmg : mg "_law_odd" = some (.ref f)) (G : Fre mg) {g_law_of : FD} (c_law_of : Cal P w K mg base 2 "_law_of" 2 g_law_of) : Cal P w K mg base 3 "_law_odd" 1 (f_law_odd g_law_of) := by
  have S_ := sc_law_odd
  refine Cal.of F hmg (F.bindsN fun _ _ _ _ _ _ us hl => match us, hl with | [_], _ => rfl) S_ rfl rfl fun cdv A outer s H E room gd => ?_
  have tk := takes_of (X := cxOf (L2.CX P w) P w K mg base N_law_odd "_law_odd" (defScope s_law_odd) f cdv A outer s H E) (E := E) rfl rfl rfl rfl
  have hx : Passes (L2.CX P w) (cxOf (L2.CX P w) P w K mg base N_law_odd "_law_odd" (defScope s_law_odd) f cdv A outer s H E) E := passes_call tk fun _ _ _ _ h => h
  exact (qs_cons (qs_asg (qe_new (ql_lst (qa_cons qe_non (qa_cons qe_bl (qa_cons qe_bl (qa_cons qe_int (qa_cons (qe_un us_neg qe_int) (qa_cons qe_str (qa_cons qe_str (qa_cons (qe_tup qa_nil) (qa_cons (qe_new (ql_lst qa_nil)) (qa_cons qe_dnew (qa_cons (qe_tup (qa_cons (qe_tup qa_nil) qa_nil)) (qa_cons (qe_tup (qa_cons qe_non qa_nil)) (qa_cons (qe_new (ql_lst (qa_cons qe_int qa_nil))) (qa_cons (qe_tup (qa_cons qe_int qa_nil)) (qa_cons (qe_tup (qa_cons qe_str qa_nil)) (qa_cons (qe_tup (qa_cons qe_int (qa_cons qe_int qa_nil))) (qa_cons (qe_tup (qa_cons qe_int (qa_cons qe_int (qa_cons qe_bl qa_nil)))) qa_nil))))))))))))))))))) (qgn 1 S_.nd)) (qs_one (qs_ret (qe_call (c_law_of.up (by decide)) room gd hx (qa_cons (qv 0) (qa_cons (qe_bin os_add (qv 1) (qe_new (ql_lst (qa_cons (qe_tup (qa_cons qe_int (qa_cons qe_int (qa_cons qe_str qa_nil)))) (qa_cons qe_str (qa_cons (qe_tup (qa_cons (qe_tup (qa_cons qe_int (qa_cons qe_int (qa_cons qe_int qa_nil)))) qa_nil)) (qa_cons (qe_disp (qps_cons qe_str qe_int qps_nil)) (qa_cons (qe_tup (qa_cons qe_int (qa_cons qe_str qa_nil))) qa_nil)))))))) qa_nil))))))
abbrev s_law_made_too : Stmt := top 40
def N_law_made_too : List Str := ["value", "found"]
theorem sc_law_made_too : FnScope N_law_made_too ["value"] (defScope s_law_made_too) := ⟨rfl, rfl, rfl, by decide +kernel, rfl, by decide +kernel, by decide +kernel⟩
def m_law_made_too : MS := (mSeq (mAsg (mNew (mLst (mCons (mErr 17 (mCons (mVar 0) mNil)) (mCons (mErr 18 (mCons (mVar 0) mNil)) (mCons (mErr 19 (mCons (mVar 0) mNil)) (mCons (mErr 20 (mCons (mVar 0) mNil)) (mCons (mErr 21 (mCons (mVar 0) mNil)) mNil))))))) (gN 1)) (mSeq (mDrop (mExtL (mVar 1) (mLst (mCons (mErr 22 (mCons (mVar 0) mNil)) (mCons (mErr 23 (mCons (mVar 0) mNil)) (mCons (mErr 24 (mCons (mVar 0) mNil)) (mCons (mErr 25 (mCons (mVar 0) mNil)) (mCons (mErr 26 (mCons (mVar 0) mNil)) (mCons (mErr 27 (mCons (mVar 0) mNil)) mNil))))))))) (mSeq (mDrop (mExtL (mVar 1) (mLst (mCons (mErr 28 (mCons (mVar 0) mNil)) (mCons (mErr 29 (mCons (mVar 0) mNil)) (mCons (mErr 30 (mCons (mVar 0) mNil)) (mCons (mErr 31 (mCons (mVar 0) mNil)) mNil))))))) (mRet (mVar 1)))))
def f_law_made_too : FD := mDef 2 (m_law_made_too)
theorem ok_law_made_too {P : Program} {w : World} {K : PySem.W.Frag} {mg : Str → Option Value} {base : Heap} {f : Addr} {fd : FuncData} (F : FnP K "_law_made_too" s_law_made_too f fd) (hmg : mg "_law_made_too" = some (.ref f)) (G : Fre mg) (K_ : ErrK P K mg 32)  : Cal P w K mg base 1 "_law_made_too" 1 (f_law_made_too) := by
  have S_ := sc_law_made_too
  refine Cal.of F hmg (F.bindsN fun _ _ _ _ _ _ us hl => match us, hl with | [_], _ => rfl) S_ rfl rfl fun cdv A outer s H E room gd => ?_
  have tk := takes_of (X := cxOf (L2.CX P w) P w K mg base N_law_made_too "_law_made_too" (defScope s_law_made_too) f cdv A outer s H E) (E := E) rfl rfl rfl rfl
  have hx : Passes (L2.CX P w) (cxOf (L2.CX P w) P w K mg base N_law_made_too "_law_made_too" (defScope s_law_made_too) f cdv A outer s H E) E := passes_call tk fun _ _ _ _ h => h
  exact (qs_cons (qs_asg (qe_new (ql_lst (qa_cons (qe_err K_ (by decide) rfl room (qa_cons (qv 0) qa_nil)) (qa_cons (qe_err K_ (by decide) rfl room (qa_cons (qv 0) qa_nil)) (qa_cons (qe_err K_ (by decide) rfl room (qa_cons (qv 0) qa_nil)) (qa_cons (qe_err K_ (by decide) rfl room (qa_cons (qv 0) qa_nil)) (qa_cons (qe_err K_ (by decide) rfl room (qa_cons (qv 0) qa_nil)) qa_nil))))))) (qgn 1 S_.nd)) (qs_cons (qs_expr (qe_extL (qv 1) (ql_lst (qa_cons (qe_err K_ (by decide) rfl room (qa_cons (qv 0) qa_nil)) (qa_cons (qe_err K_ (by decide) rfl room (qa_cons (qv 0) qa_nil)) (qa_cons (qe_err K_ (by decide) rfl room (qa_cons (qv 0) qa_nil)) (qa_cons (qe_err K_ (by decide) rfl room (qa_cons (qv 0) qa_nil)) (qa_cons (qe_err K_ (by decide) rfl room (qa_cons (qv 0) qa_nil)) (qa_cons (qe_err K_ (by decide) rfl room (qa_cons (qv 0) qa_nil)) qa_nil))))))))) (qs_cons (qs_expr (qe_extL (qv 1) (ql_lst (qa_cons (qe_err K_ (by decide) rfl room (qa_cons (qv 0) qa_nil)) (qa_cons (qe_err K_ (by decide) rfl room (qa_cons (qv 0) qa_nil)) (qa_cons (qe_err K_ (by decide) rfl room (qa_cons (qv 0) qa_nil)) (qa_cons (qe_err K_ (by decide) rfl room (qa_cons (qv 0) qa_nil)) qa_nil))))))) (qs_one (qs_ret (qv 1))))))
abbrev s_law_made : Stmt := top 39
def N_law_made : List Str := ["value", "found"]
theorem sc_law_made : FnScope N_law_made ["value"] (defScope s_law_made) := ⟨rfl, rfl, rfl, by decide +kernel, rfl, by decide +kernel, by decide +kernel⟩
def m_law_made (g_law_made_too : FD) : MS := (mSeq (mAsg (mNew (mLst (mCons (mErr 1 (mCons (mVar 0) mNil)) (mCons (mErr 2 (mCons (mVar 0) mNil)) (mCons (mErr 3 (mCons (mVar 0) mNil)) (mCons (mErr 4 (mCons (mVar 0) mNil)) (mCons (mErr 5 (mCons (mVar 0) mNil)) mNil))))))) (gN 1)) (mSeq (mDrop (mExtL (mVar 1) (mLst (mCons (mErr 6 (mCons (mVar 0) mNil)) (mCons (mErr 7 (mCons (mVar 0) mNil)) (mCons (mErr 8 (mCons (mVar 0) mNil)) (mCons (mErr 9 (mCons (mVar 0) mNil)) (mCons (mErr 10 (mCons (mVar 0) mNil)) mNil)))))))) (mSeq (mDrop (mExtL (mVar 1) (mLst (mCons (mErr 11 (mCons (mVar 0) mNil)) (mCons (mErr 12 (mCons (mVar 0) mNil)) (mCons (mErr 13 (mCons (mVar 0) mNil)) (mCons (mErr 14 (mCons (mVar 0) mNil)) (mCons (mErr 15 (mCons (mVar 0) mNil)) mNil)))))))) (mSeq (mDrop (mExtL (mVar 1) (mLst (mCons (mErr 16 (mCons (mVar 0) mNil)) mNil)))) (mRet (mBin bAdd (mVar 1) (mCall g_law_made_too (mArgs 1 (mCons (mVar 0) mNil)))))))))
def f_law_made (g_law_made_too : FD) : FD := mDef 2 (m_law_made g_law_made_too)
theorem ok_law_made {P : Program} {w : World} {K : PySem.W.Frag} {mg : Str → Option Value} {base : Heap} {f : Addr} {fd : FuncData} (F : FnP K "_law_made" s_law_made f fd) (hmg : mg "_law_made" = some (.ref f)) (G : Fre mg) (K_ : ErrK P K mg 32) {g_law_made_too : FD} (c_law_made_too : Cal P w K mg base 1 "_law_made_too" 1 g_law_made_too) : Cal P w K mg base 2 "_law_made" 1 (f_law_made g_law_made_too) := by
  have S_ := sc_law_made
  refine Cal.of F hmg (F.bindsN fun _ _ _ _ _ _ us hl => match us, hl with | [_], _ => rfl) S_ rfl rfl fun cdv A outer s H E room gd => ?_
  have tk := takes_of (X := cxOf (L2.CX P w) P w K mg base N_law_made "_law_made" (defScope s_law_made) f cdv A outer s H E) (E := E) rfl rfl rfl rfl
  have hx : Passes (L2.CX P w) (cxOf (L2.CX P w) P w K mg base N_law_made "_law_made" (defScope s_law_made) f cdv A outer s H E) E := passes_call tk fun _ _ _ _ h => h
  exact (qs_cons (qs_asg (qe_new (ql_lst (qa_cons (qe_err K_ (by decide) rfl room (qa_cons (qv 0) qa_nil)) (qa_cons (qe_err K_ (by decide) rfl room (qa_cons (qv 0) qa_nil)) (qa_cons (qe_err K_ (by decide) rfl room (qa_cons (qv 0) qa_nil)) (qa_cons (qe_err K_ (by decide) rfl room (qa_cons (qv 0) qa_nil)) (qa_cons (qe_err K_ (by decide) rfl room (qa_cons (qv 0) qa_nil)) qa_nil))))))) (qgn 1 S_.nd)) (qs_cons (qs_expr (qe_extL (qv 1) (ql_lst (qa_cons (qe_err K_ (by decide) rfl room (qa_cons (qv 0) qa_nil)) (qa_cons (qe_err K_ (by decide) rfl room (qa_cons (qv 0) qa_nil)) (qa_cons (qe_err K_ (by decide) rfl room (qa_cons (qv 0) qa_nil)) (qa_cons (qe_err K_ (by decide) rfl room (qa_cons (qv 0) qa_nil)) (qa_cons (qe_err K_ (by decide) rfl room (qa_cons (qv 0) qa_nil)) qa_nil)))))))) (qs_cons (qs_expr (qe_extL (qv 1) (ql_lst (qa_cons (qe_err K_ (by decide) rfl room (qa_cons (qv 0) qa_nil)) (qa_cons (qe_err K_ (by decide) rfl room (qa_cons (qv 0) qa_nil)) (qa_cons (qe_err K_ (by decide) rfl room (qa_cons (qv 0) qa_nil)) (qa_cons (qe_err K_ (by decide) rfl room (qa_cons (qv 0) qa_nil)) (qa_cons (qe_err K_ (by decide) rfl room (qa_cons (qv 0) qa_nil)) qa_nil)))))))) (qs_cons (qs_expr (qe_extL (qv 1) (ql_lst (qa_cons (qe_err K_ (by decide) rfl room (qa_cons (qv 0) qa_nil)) qa_nil)))) (qs_one (qs_ret (qe_bin os_add (qv 1) (qe_call (c_law_made_too.up (by decide)) room gd hx (qa_cons (qv 0) qa_nil)))))))))
abbrev s_law_kinds_too : Stmt := top 42
def N_law_kinds_too : List Str := ["error", "found"]
theorem sc_law_kinds_too : FnScope N_law_kinds_too ["error"] (defScope s_law_kinds_too) := ⟨rfl, rfl, rfl, by decide +kernel, rfl, by decide +kernel, by decide +kernel⟩
def m_law_kinds_too : MS := (mSeq (mAsg (mNew (mLst (mCons (mIsErr 32 17 (mVar 0)) (mCons (mIsErr 32 18 (mVar 0)) (mCons (mIsErr 32 19 (mVar 0)) mNil))))) (gN 1)) (mSeq (mDrop (mExtL (mVar 1) (mLst (mCons (mIsErr 32 20 (mVar 0)) (mCons (mIsErr 32 21 (mVar 0)) (mCons (mIsErr 32 22 (mVar 0)) mNil)))))) (mSeq (mDrop (mExtL (mVar 1) (mLst (mCons (mIsErr 32 23 (mVar 0)) (mCons (mIsErr 32 24 (mVar 0)) (mCons (mIsErr 32 25 (mVar 0)) mNil)))))) (mSeq (mDrop (mExtL (mVar 1) (mLst (mCons (mIsErr 32 26 (mVar 0)) (mCons (mIsErr 32 27 (mVar 0)) (mCons (mIsErr 32 28 (mVar 0)) mNil)))))) (mSeq (mDrop (mExtL (mVar 1) (mLst (mCons (mIsErr 32 29 (mVar 0)) (mCons (mIsErr 32 30 (mVar 0)) (mCons (mIsErr 32 31 (mVar 0)) mNil)))))) (mRet (mVar 1)))))))
def f_law_kinds_too : FD := mDef 2 (m_law_kinds_too)
theorem ok_law_kinds_too {P : Program} {w : World} {K : PySem.W.Frag} {mg : Str → Option Value} {base : Heap} {f : Addr} {fd : FuncData} (F : FnP K "_law_kinds_too" s_law_kinds_too f fd) (hmg : mg "_law_kinds_too" = some (.ref f)) (G : Fre mg) (K_ : ErrK P K mg 32)  : Cal P w K mg base 1 "_law_kinds_too" 1 (f_law_kinds_too) := by
  have S_ := sc_law_kinds_too
  refine Cal.of F hmg (F.bindsN fun _ _ _ _ _ _ us hl => match us, hl with | [_], _ => rfl) S_ rfl rfl fun cdv A outer s H E room gd => ?_
  have tk := takes_of (X := cxOf (L2.CX P w) P w K mg base N_law_kinds_too "_law_kinds_too" (defScope s_law_kinds_too) f cdv A outer s H E) (E := E) rfl rfl rfl rfl
  have hx : Passes (L2.CX P w) (cxOf (L2.CX P w) P w K mg base N_law_kinds_too "_law_kinds_too" (defScope s_law_kinds_too) f cdv A outer s H E) E := passes_call tk fun _ _ _ _ h => h
  exact (qs_cons (qs_asg (qe_new (ql_lst (qa_cons (qe_isErr K_ (by decide) rfl (qv 0) G.isinstance_) (qa_cons (qe_isErr K_ (by decide) rfl (qv 0) G.isinstance_) (qa_cons (qe_isErr K_ (by decide) rfl (qv 0) G.isinstance_) qa_nil))))) (qgn 1 S_.nd)) (qs_cons (qs_expr (qe_extL (qv 1) (ql_lst (qa_cons (qe_isErr K_ (by decide) rfl (qv 0) G.isinstance_) (qa_cons (qe_isErr K_ (by decide) rfl (qv 0) G.isinstance_) (qa_cons (qe_isErr K_ (by decide) rfl (qv 0) G.isinstance_) qa_nil)))))) (qs_cons (qs_expr (qe_extL (qv 1) (ql_lst (qa_cons (qe_isErr K_ (by decide) rfl (qv 0) G.isinstance_) (qa_cons (qe_isErr K_ (by decide) rfl (qv 0) G.isinstance_) (qa_cons (qe_isErr K_ (by decide) rfl (qv 0) G.isinstance_) qa_nil)))))) (qs_cons (qs_expr (qe_extL (qv 1) (ql_lst (qa_cons (qe_isErr K_ (by decide) rfl (qv 0) G.isinstance_) (qa_cons (qe_isErr K_ (by decide) rfl (qv 0) G.isinstance_) (qa_cons (qe_isErr K_ (by decide) rfl (qv 0) G.isinstance_) qa_nil)))))) (qs_cons (qs_expr (qe_extL (qv 1) (ql_lst (qa_cons (qe_isErr K_ (by decide) rfl (qv 0) G.isinstance_) (qa_cons (qe_isErr K_ (by decide) rfl (qv 0) G.isinstance_) (qa_cons (qe_isErr K_ (by decide) rfl (qv 0) G.isinstance_) qa_nil)))))) (qs_one (qs_ret (qv 1))))))))
abbrev s_law_kinds : Stmt := top 41
def N_law_kinds : List Str := ["error", "found"]
theorem sc_law_kinds : FnScope N_law_kinds ["error"] (defScope s_law_kinds) := ⟨rfl, rfl, rfl, by decide +kernel, rfl, by decide +kernel, by decide +kernel⟩
def m_law_kinds (g_law_kinds_too : FD) : MS := (mSeq (mAsg (mNew (mLst (mCons (mIsErr 32 1 (mVar 0)) (mCons (mIsErr 32 2 (mVar 0)) (mCons (mIsErr 32 3 (mVar 0)) mNil))))) (gN 1)) (mSeq (mDrop (mExtL (mVar 1) (mLst (mCons (mIsErr 32 4 (mVar 0)) (mCons (mIsErr 32 5 (mVar 0)) (mCons (mIsErr 32 6 (mVar 0)) mNil)))))) (mSeq (mDrop (mExtL (mVar 1) (mLst (mCons (mIsErr 32 7 (mVar 0)) (mCons (mIsErr 32 8 (mVar 0)) (mCons (mIsErr 32 9 (mVar 0)) mNil)))))) (mSeq (mDrop (mExtL (mVar 1) (mLst (mCons (mIsErr 32 10 (mVar 0)) (mCons (mIsErr 32 11 (mVar 0)) (mCons (mIsErr 32 12 (mVar 0)) mNil)))))) (mSeq (mDrop (mExtL (mVar 1) (mLst (mCons (mIsErr 32 13 (mVar 0)) (mCons (mIsErr 32 14 (mVar 0)) (mCons (mIsErr 32 15 (mVar 0)) mNil)))))) (mSeq (mDrop (mExtL (mVar 1) (mLst (mCons (mIsErr 32 16 (mVar 0)) mNil)))) (mRet (mBin bAdd (mVar 1) (mCall g_law_kinds_too (mArgs 1 (mCons (mVar 0) mNil)))))))))))
def f_law_kinds (g_law_kinds_too : FD) : FD := mDef 2 (m_law_kinds g_law_kinds_too)
theorem ok_law_kinds {P : Program} {w : World} {K : PySem.W.Frag} {mg : Str → Option Value} {base : Heap} {f : Addr} {fd : FuncData} (F : FnP K "_law_kinds" s_law_kinds f fd) (hmg : mg "_law_kinds" = some (.ref f)) (G : Fre mg) (K_ : ErrK P K mg 32) {g_law_kinds_too : FD} (c_law_kinds_too : Cal P w K mg base 1 "_law_kinds_too" 1 g_law_kinds_too) : Cal P w K mg base 2 "_law_kinds" 1 (f_law_kinds g_law_kinds_too) := by
  have S_ := sc_law_kinds
  refine Cal.of F hmg (F.bindsN fun _ _ _ _ _ _ us hl => match us, hl with | [_], _ => rfl) S_ rfl rfl fun cdv A outer s H E room gd => ?_
  have tk := takes_of (X := cxOf (L2.CX P w) P w K mg base N_law_kinds "_law_kinds" (defScope s_law_kinds) f cdv A outer s H E) (E := E) rfl rfl rfl rfl
  have hx : Passes (L2.CX P w) (cxOf (L2.CX P w) P w K mg base N_law_kinds "_law_kinds" (defScope s_law_kinds) f cdv A outer s H E) E := passes_call tk fun _ _ _ _ h => h
  exact (qs_cons (qs_asg (qe_new (ql_lst (qa_cons (qe_isErr K_ (by decide) rfl (qv 0) G.isinstance_) (qa_cons (qe_isErr K_ (by decide) rfl (qv 0) G.isinstance_) (qa_cons (qe_isErr K_ (by decide) rfl (qv 0) G.isinstance_) qa_nil))))) (qgn 1 S_.nd)) (qs_cons (qs_expr (qe_extL (qv 1) (ql_lst (qa_cons (qe_isErr K_ (by decide) rfl (qv 0) G.isinstance_) (qa_cons (qe_isErr K_ (by decide) rfl (qv 0) G.isinstance_) (qa_cons (qe_isErr K_ (by decide) rfl (qv 0) G.isinstance_) qa_nil)))))) (qs_cons (qs_expr (qe_extL (qv 1) (ql_lst (qa_cons (qe_isErr K_ (by decide) rfl (qv 0) G.isinstance_) (qa_cons (qe_isErr K_ (by decide) rfl (qv 0) G.isinstance_) (qa_cons (qe_isErr K_ (by decide) rfl (qv 0) G.isinstance_) qa_nil)))))) (qs_cons (qs_expr (qe_extL (qv 1) (ql_lst (qa_cons (qe_isErr K_ (by decide) rfl (qv 0) G.isinstance_) (qa_cons (qe_isErr K_ (by decide) rfl (qv 0) G.isinstance_) (qa_cons (qe_isErr K_ (by decide) rfl (qv 0) G.isinstance_) qa_nil)))))) (qs_cons (qs_expr (qe_extL (qv 1) (ql_lst (qa_cons (qe_isErr K_ (by decide) rfl (qv 0) G.isinstance_) (qa_cons (qe_isErr K_ (by decide) rfl (qv 0) G.isinstance_) (qa_cons (qe_isErr K_ (by decide) rfl (qv 0) G.isinstance_) qa_nil)))))) (qs_cons (qs_expr (qe_extL (qv 1) (ql_lst (qa_cons (qe_isErr K_ (by decide) rfl (qv 0) G.isinstance_) qa_nil)))) (qs_one (qs_ret (qe_bin os_add (qv 1) (qe_call (c_law_kinds_too.up (by decide)) room gd hx (qa_cons (qv 0) qa_nil)))))))))))
abbrev s_law_right : Stmt := top 43
def N_law_right : List Str := ["pot", "lap", "value", "errors", "base", "at", "error"]
theorem sc_law_right : FnScope N_law_right ["pot"] (defScope s_law_right) := ⟨rfl, rfl, rfl, by decide +kernel, rfl, by decide +kernel, by decide +kernel⟩
def m_law_right (g_law_odd g_law_made g_law_kinds : FD) : MS := (mSeq (mFor (mIR1 (mCons (mC (.int 3)) mNil)) (gN 1) (mGc (fun _ _ => []) (mSeq (mAsg (mCall g_law_odd (mArgs 1 (mCons (mVar 0) mNil))) (gN 2)) (mSeq (mPar 3 4 (mCall g_law_made (mArgs 1 (mCons (mVar 2) mNil))) (mErr 0 (mCons (mVar 2) mNil))) (mSeq (mFor (mIE (mWE (mVar 3))) (gT 2 (gsC (gN 5) (gsC (gN 6) gsN))) (mSeq (mIf (mOr (mT (mBin bNeX (mErrVal 32 (mVar 6)) (mVar 2))) (mOr (mT (mBin bNeX (mB bRepr (mCons (mErrVal 32 (mVar 6)) mNil)) (mB bRepr (mCons (mVar 2) mNil)))) (mT (mBin bNeX (mM "list" bIndex (mCall g_law_kinds (mArgs 1 (mCons (mVar 6) mNil))) (mCons (mC (.bl true)) mNil)) (mVar 5))))) (mRet (mC (.bl false))) mNext) (mSeq (mIf (mOr (mT (mBin bNeX (mM "list" bCount (mCall g_law_kinds (mArgs 1 (mCons (mVar 6) mNil))) (mCons (mC (.bl true)) mNil)) (mC (.int 1)))) (mNot (mT (mIsErr 32 0 (mVar 6))))) (mRet (mC (.bl false))) mNext) (mIf (mNot (mT (mIsVE 32 (mVar 6)))) (mRet (mC (.bl false))) mNext)))) (mIf (mOr (mT (mBin bNeX (mB bRepr (mCons (mErrVal 32 (mVar 4)) mNil)) (mB bRepr (mCons (mVar 2) mNil)))) (mOr (mT (mBin bIn (mC (.bl true)) (mCall g_law_kinds (mArgs 1 (mCons (mVar 4) mNil))))) (mNot (mT (mIsVE 32 (mVar 4)))))) (mRet (mC (.bl false))) mNext)))))) (mRet (mC (.bl true))))
def f_law_right (g_law_odd g_law_made g_law_kinds : FD) : FD := mDef 7 (m_law_right g_law_odd g_law_made g_law_kinds)
theorem ok_law_right {P : Program} {w : World} {K : PySem.W.Frag} {mg : Str → Option Value} {base : Heap} {f : Addr} {fd : FuncData} (F : FnP K "_law_right" s_law_right f fd) (hmg : mg "_law_right" = some (.ref f)) (G : Fre mg) (K_ : ErrK P K mg 32) {g_law_odd g_law_made g_law_kinds : FD} (c_law_odd : Cal P w K mg base 3 "_law_odd" 1 g_law_odd) (c_law_made : Cal P w K mg base 2 "_law_made" 1 g_law_made) (c_law_kinds : Cal P w K mg base 2 "_law_kinds" 1 g_law_kinds) : Cal P w K mg base 4 "_law_right" 1 (f_law_right g_law_odd g_law_made g_law_kinds) := by
  have S_ := sc_law_right
  refine Cal.of F hmg (F.bindsN fun _ _ _ _ _ _ us hl => match us, hl with | [_], _ => rfl) S_ rfl rfl fun cdv A outer s H E room gd => ?_
  have tk := takes_of (X := cxOf (L2.CX P w) P w K mg base N_law_right "_law_right" (defScope s_law_right) f cdv A outer s H E) (E := E) rfl rfl rfl rfl
  have hx : Passes (L2.CX P w) (cxOf (L2.CX P w) P w K mg base N_law_right "_law_right" (defScope s_law_right) f cdv A outer s H E) E := passes_call tk fun _ _ _ _ h => h
  exact (qs_cons (qs_for (passes_of rfl) rfl (qi_range1 G.range_ (qa_cons qe_int qa_nil)) (qgn 1 S_.nd) (qs_gc (fun _ _ => []) (qs_cons (qs_asg (qe_call (c_law_odd.up (by decide)) room gd hx (qa_cons (qv 0) qa_nil)) (qgn 2 S_.nd)) (qs_cons (qs_par (i := 3) (j := 4) rfl S_.nd rfl rfl (by decide) rfl rfl (qe_call (c_law_made.up (by decide)) room gd hx (qa_cons (qv 2) qa_nil)) (qe_err K_ (by decide) rfl room (qa_cons (qv 2) qa_nil))) (qs_cons (qs_for (passes_of rfl) rfl (qi_enum G.enumerate_ (qw_e (qv 3))) (qg_tup rfl (qgs_cons (qgn 5 S_.nd) (qgs_cons (qgn 6 S_.nd) qgs_nil))) (qs_cons (qs_if (QW.qt (qw_or (qt_cmp (os_neX (hu65 room)) (qe_errVal K_ (qv 6)) (qv 2) (nomark _)) (qw_or (qt_cmp (os_neX (hu65 room)) (qe_callB (cr_repr gd (hu64 room)) G.repr_ (by kernel_rfl) (qa_cons (qe_errVal K_ (qv 6)) qa_nil)) (qe_callB (cr_repr gd (hu64 room)) G.repr_ (by kernel_rfl) (qa_cons (qv 2) qa_nil)) (nomark _)) (qw_or1 (qt_cmp (os_neX (hu65 room)) (qe_meth PySem.F.plainAttrs_list PySem.F.slot_list_index PySem.F.type_list_index ms_index (qe_call (c_law_kinds.up (by decide)) room gd hx (qa_cons (qv 6) qa_nil)) (qa_cons qe_bl qa_nil)) (qv 5) (nomark _)))))) (qs_one (qs_ret qe_bl)) qs_nil) (qs_cons (qs_if (QW.qt (qw_or (qt_cmp (os_neX (hu65 room)) (qe_meth PySem.F.plainAttrs_list PySem.F.slot_list_count PySem.F.type_list_count ms_count (qe_call (c_law_kinds.up (by decide)) room gd hx (qa_cons (qv 6) qa_nil)) (qa_cons qe_bl qa_nil)) qe_int (nomark _)) (qw_or1 (qt_not (qt_val (qe_isErr K_ (by decide) rfl (qv 6) G.isinstance_)))))) (qs_one (qs_ret qe_bl)) qs_nil) (qs_one (qs_if (qt_not (qt_val (qe_isVE K_ (qv 6) G.isinstance_ G.ValueError_))) (qs_one (qs_ret qe_bl)) qs_nil))))) (qs_one (qs_if (QW.qt (qw_or (qt_cmp (os_neX (hu65 room)) (qe_callB (cr_repr gd (hu64 room)) G.repr_ (by kernel_rfl) (qa_cons (qe_errVal K_ (qv 4)) qa_nil)) (qe_callB (cr_repr gd (hu64 room)) G.repr_ (by kernel_rfl) (qa_cons (qv 2) qa_nil)) (nomark _)) (qw_or (qt_cmp (os_in (hu65 room)) qe_bl (qe_call (c_law_kinds.up (by decide)) room gd hx (qa_cons (qv 4) qa_nil)) (by kernel_rfl)) (qw_or1 (qt_not (qt_val (qe_isVE K_ (qv 4) G.isinstance_ G.ValueError_))))))) (qs_one (qs_ret qe_bl)) qs_nil))))))) (qs_one (qs_ret qe_bl)))
abbrev s_law_pot : Stmt := top 34
def N_law_pot : List Str := ["script", "place", "cell", "own", "small"]
theorem sc_law_pot : FnScope N_law_pot ["script", "place"] (defScope s_law_pot) := ⟨rfl, rfl, rfl, by decide +kernel, rfl, by decide +kernel, by decide +kernel⟩
def m_law_pot : MS := (mSeq (mAsg (mIfE (mT (mBin bLt0 (mVar 1) (mCQ gLen (mQE (mVar 0))))) (mBin bIx (mVar 0) (mVar 1)) (mBin bAdd (mBin bAdd (mBin bMod (mCQ gSum (mQSl (mVar 0) mNoPart (mPart (mC (.int 1))))) (mC (.int 1000003))) (mBin bMul (mC (.int 1169)) (mVar 1))) (mC (.int 529)))) (gN 2)) (mSeq (mAsg (mBin bMul (mBin bMod (mB bInt (mCons (mB bAbs (mCons (mVar 2) mNil)) mNil)) (mBin bPow (mBin bPow (mC (.int 10)) (mC (.int 60))) (mC (.int 5)))) (mB bInt (mCons (mBin bGe0 (mB bAbs (mCons (mVar 2) mNil)) (mBin bPow (mC (.int 10)) (mC (.int 18)))) mNil))) (gN 3)) (mSeq (mAsg (mBin bMod (mB bInt (mCons (mVar 2) mNil)) (mC (.int 2305843009213693951))) (gN 4)) (mRet (mNew (mLst (mCons (mVar 3) (mCons (mBin bMod (mB bInt (mCons (mBin bAdd (mBin bAdd (mBin bMul (mVar 4) (mC (.int 73215))) (mBin bMul (mBin bMul (mC (.int 8137)) (mVar 1)) (mVar 1))) (mC (.int 531))) mNil)) (mC (.int 2305843009213693921))) (mCons (mC (.int 0)) mNil)))))))))
def f_law_pot : FD := mDef 5 (m_law_pot)
theorem ok_law_pot {P : Program} {w : World} {K : PySem.W.Frag} {mg : Str → Option Value} {base : Heap} {f : Addr} {fd : FuncData} (F : FnP K "_law_pot" s_law_pot f fd) (hmg : mg "_law_pot" = some (.ref f)) (G : Fre mg)  : Cal P w K mg base 1 "_law_pot" 2 (f_law_pot) := by
  have S_ := sc_law_pot
  refine Cal.of F hmg (F.bindsN fun _ _ _ _ _ _ us hl => match us, hl with | [_, _], _ => rfl) S_ rfl rfl fun cdv A outer s H E room gd => ?_
  have tk := takes_of (X := cxOf (L2.CX P w) P w K mg base N_law_pot "_law_pot" (defScope s_law_pot) f cdv A outer s H E) (E := E) rfl rfl rfl rfl
  have hx : Passes (L2.CX P w) (cxOf (L2.CX P w) P w K mg base N_law_pot "_law_pot" (defScope s_law_pot) f cdv A outer s H E) E := passes_call tk fun _ _ _ _ h => h
  exact (qs_cons (qs_asg (qe_if (qt_cmp os_lt0 (qv 1) (qe_callQ (cq_len) G.len_ (by kernel_rfl) (qq_e (qv 0))) (nomark _)) (qe_sub (hu1 room) (qv 0) (qv 1)) (qe_bin os_add (qe_bin os_add (qe_bin os_mod (qe_callQ (cq_sum rfl) G.sum_ (by kernel_rfl) (qq_slice (qv 0) qo_none (qo_some qe_int))) qe_int) (qe_bin os_mul qe_int (qv 1))) qe_int)) (qgn 2 S_.nd)) (qs_cons (qs_asg (qe_bin os_mul (qe_bin os_mod (qe_callTy cr_int G.int_ (by kernel_rfl) (qa_cons (qe_callB cr_abs G.abs_ (by kernel_rfl) (qa_cons (qv 2) qa_nil)) qa_nil)) (qe_bin os_pow (qe_bin os_pow qe_int qe_int) qe_int)) (qe_callTy cr_int G.int_ (by kernel_rfl) (qa_cons (qe_cmp os_ge0 (qe_callB cr_abs G.abs_ (by kernel_rfl) (qa_cons (qv 2) qa_nil)) (qe_bin os_pow qe_int qe_int) (nomark _)) qa_nil))) (qgn 3 S_.nd)) (qs_cons (qs_asg (qe_bin os_mod (qe_callTy cr_int G.int_ (by kernel_rfl) (qa_cons (qv 2) qa_nil)) qe_int) (qgn 4 S_.nd)) (qs_one (qs_ret (qe_new (ql_lst (qa_cons (qv 3) (qa_cons (qe_bin os_mod (qe_callTy cr_int G.int_ (by kernel_rfl) (qa_cons (qe_bin os_add (qe_bin os_add (qe_bin os_mul (qv 4) qe_int) (qe_bin os_mul (qe_bin os_mul qe_int (qv 1)) (qv 1))) qe_int) qa_nil)) qe_int) (qa_cons qe_int qa_nil))))))))))
abbrev s_law : Stmt := top 44
def N_law : List Str := ["script", "place"]
theorem sc_law : FnScope N_law ["script"] (defScope s_law) := ⟨rfl, rfl, rfl, by decide +kernel, rfl, by decide +kernel, by decide +kernel⟩
def m_law (g_law_cells g_law_right g_law_pot : FD) : MS := (mRet (mCQ gAll (mQL (mLC (mIW (mWE (mCall g_law_cells (mArgs 2 (mCons (mVar 0) (mCons (mC (.int 3)) mNil)))))) (.nm 1) mYes (mCall g_law_right (mArgs 1 (mCons (mCall g_law_pot (mArgs 2 (mCons (mVar 0) (mCons (mVar 1) mNil)))) mNil))) [1]))))
def f_law (g_law_cells g_law_right g_law_pot : FD) : FD := mDef 2 (m_law g_law_cells g_law_right g_law_pot)
theorem ok_law {P : Program} {w : World} {K : PySem.W.Frag} {mg : Str → Option Value} {base : Heap} {f : Addr} {fd : FuncData} (F : FnP K "law" s_law f fd) (hmg : mg "law" = some (.ref f)) (G : Fre mg) {g_law_cells g_law_right g_law_pot : FD} (c_law_cells : Cal P w K mg base 1 "_law_cells" 2 g_law_cells) (c_law_right : Cal P w K mg base 4 "_law_right" 1 g_law_right) (c_law_pot : Cal P w K mg base 1 "_law_pot" 2 g_law_pot) : Cal P w K mg base 5 "law" 1 (f_law g_law_cells g_law_right g_law_pot) := by
  have S_ := sc_law
  refine Cal.of F hmg (F.bindsN fun _ _ _ _ _ _ us hl => match us, hl with | [_], _ => rfl) S_ rfl rfl fun cdv A outer s H E room gd => ?_
  have tk := takes_of (X := cxOf (L2.CX P w) P w K mg base N_law "law" (defScope s_law) f cdv A outer s H E) (E := E) rfl rfl rfl rfl
  have hx : Passes (L2.CX P w) (cxOf (L2.CX P w) P w K mg base N_law "law" (defScope s_law) f cdv A outer s H E) E := passes_call tk fun _ _ _ _ h => h
  exact (qs_one (qs_ret (qe_callQ (cq_all rfl) G.all_ (by kernel_rfl) (qq_l (ql_lc (own := [("place", 1)]) rfl S_.nd (qi_w (qw_e (qe_call (c_law_cells.up (by decide)) room gd hx (qa_cons (qv 0) (qa_cons qe_int qa_nil))))) (by kernel_rfl) rfl (fun _ _ _ _ _ => (tg_nm 1 S_.nd)) (fun _ _ _ _ _ => qts_nil) (fun _ _ _ _ _ => (qe_call (c_law_right.up (by decide)) room gd passNone (qa_cons (qe_call (c_law_pot.up (by decide)) room gd passNone (qa_cons (qv 0) (qa_cons (qv 1) qa_nil))) qa_nil))))))))
open PySem PySem.Spec L2 RZ RQ
def d_law_cells : He.DefD := ⟨("_law_cells", none), "_law_cells", "_law_cells", defArgs s_law_cells, defBody s_law_cells, defScope s_law_cells, [], []⟩
def d_law_take : He.DefD := ⟨("_law_take", none), "_law_take", "_law_take", defArgs s_law_take, defBody s_law_take, defScope s_law_take, [], []⟩
def d_law_of : He.DefD := ⟨("_law_of", none), "_law_of", "_law_of", defArgs s_law_of, defBody s_law_of, defScope s_law_of, [], []⟩
def d_law_odd : He.DefD := ⟨("_law_odd", none), "_law_odd", "_law_odd", defArgs s_law_odd, defBody s_law_odd, defScope s_law_odd, [], []⟩
def d_law_made_too : He.DefD := ⟨("_law_made_too", none), "_law_made_too", "_law_made_too", defArgs s_law_made_too, defBody s_law_made_too, defScope s_law_made_too, [], []⟩
def d_law_made : He.DefD := ⟨("_law_made", none), "_law_made", "_law_made", defArgs s_law_made, defBody s_law_made, defScope s_law_made, [], []⟩
def d_law_kinds_too : He.DefD := ⟨("_law_kinds_too", none), "_law_kinds_too", "_law_kinds_too", defArgs s_law_kinds_too, defBody s_law_kinds_too, defScope s_law_kinds_too, [], []⟩
def d_law_kinds : He.DefD := ⟨("_law_kinds", none), "_law_kinds", "_law_kinds", defArgs s_law_kinds, defBody s_law_kinds, defScope s_law_kinds, [], []⟩
def d_law_right : He.DefD := ⟨("_law_right", none), "_law_right", "_law_right", defArgs s_law_right, defBody s_law_right, defScope s_law_right, [], []⟩
def d_law_pot : He.DefD := ⟨("_law_pot", none), "_law_pot", "_law_pot", defArgs s_law_pot, defBody s_law_pot, defScope s_law_pot, [], []⟩
def d_law : He.DefD := ⟨("law", none), "law", "law", defArgs s_law, defBody s_law, defScope s_law, [], []⟩
def fn : List He.DefD := [d_law_cells, d_law_take, d_law_of, d_law_odd, d_law_made_too, d_law_made, d_law_kinds_too, d_law_kinds, d_law_right, d_law_pot, d_law]
def fa : List He.Fa := [.glo "_law_cells", .glo "_law_take", .glo "_law_of", .glo "_law_odd", .glo "_law_made_too", .glo "_law_made", .glo "_law_kinds_too", .glo "_law_kinds", .glo "_law_right", .glo "_law_pot", .glo "law", .free "ValueError", .free "abs", .free "all", .free "enumerate", .free "int", .free "isinstance", .free "len", .free "list", .free "max", .free "min", .free "range", .free "repr", .free "sum"]
abbrev Rr : PySem.W.OpenRow := PySem.W.OpenLaw.row PySem.Challenge.rw_roadqueues_k68_errors_keep_any_value
abbrev file : Str := "/claim/cut.py"
abbrev hk : PySem.W.Hook := hookX 6 file 4 32 fa fn
def ob (s : PySem.W.SharedT) : AlX := obsXG 6 file 32 fa fn (HandSHeadRun.getT s)
theorem ob_eq (s : PySem.W.SharedT) : ob s = hk.obs s.abs := obsXG_eq (HandSHeadRun.getT_eq s)
def loose0 : List Str := ["QueueError", "BadWeb", "BadRoad", "BadPlace", "BadNumber", "TooMany", "BadPuttings", "BadRate", "BadWay", "TooFast", "BadText", "BadRule", "BadRows", "NotRing", "HasRing", "TooSlow", "NotTowards", "BadDues", "UnlikeEnds", "BadWays"]
def loose1 : List Str := ["BadTable", "TooGreat", "NoThing", "WrongKind", "BadName", "Held", "OtherWeb", "BadDeed", "NothingToUndo", "NothingToRedo", "NoNote", "BadDesk", "_law_pot", "_law_take", "_law_of", "_law_cells", "_law_odd", "_law_made", "_law_made_too", "_law_kinds"]
def loose2 : List Str := ["_law_kinds_too", "_law_right"]
def loose : List Str := loose0 ++ loose1 ++ loose2
theorem run (w : World) : HandSHeadRun.RunEq Rr (PySem.W.view Rr.prog [44]) hk ob 12000 loose w := by
  intro os
  kernel_rfl
theorem facts {P : Program} {w : World} {K : PySem.W.Frag} {h : Heap} {mg : Str → Option Value} (X : K.In h) (G : h.Ns mainGlobals mg) (c : SaysX P.main.file 4 32 fa fn K) (top : (P.main.scope.names.lookup ("super" : Str)).isSome = false)
  : Fre mg ∧ ErrK P K mg 32 ∧ (∃ f fd, FnP K "_law_cells" s_law_cells f fd ∧ mg "_law_cells" = some (.ref f)) ∧ (∃ f fd, FnP K "_law_take" s_law_take f fd ∧ mg "_law_take" = some (.ref f)) ∧ (∃ f fd, FnP K "_law_of" s_law_of f fd ∧ mg "_law_of" = some (.ref f)) ∧ (∃ f fd, FnP K "_law_odd" s_law_odd f fd ∧ mg "_law_odd" = some (.ref f)) ∧ (∃ f fd, FnP K "_law_made_too" s_law_made_too f fd ∧ mg "_law_made_too" = some (.ref f)) ∧ (∃ f fd, FnP K "_law_made" s_law_made f fd ∧ mg "_law_made" = some (.ref f)) ∧ (∃ f fd, FnP K "_law_kinds_too" s_law_kinds_too f fd ∧ mg "_law_kinds_too" = some (.ref f)) ∧ (∃ f fd, FnP K "_law_kinds" s_law_kinds f fd ∧ mg "_law_kinds" = some (.ref f)) ∧ (∃ f fd, FnP K "_law_right" s_law_right f fd ∧ mg "_law_right" = some (.ref f)) ∧ (∃ f fd, FnP K "_law_pot" s_law_pot f fd ∧ mg "_law_pot" = some (.ref f)) ∧ (∃ f fd, FnP K "law" s_law f fd ∧ mg "law" = some (.ref f)) := by
  refine ⟨⟨He.free_ok X G (c.fact 11), He.free_ok X G (c.fact 12), He.free_ok X G (c.fact 13), He.free_ok X G (c.fact 14), He.free_ok X G (c.fact 15), He.free_ok X G (c.fact 16), He.free_ok X G (c.fact 17), He.free_ok X G (c.fact 18), He.free_ok X G (c.fact 19), He.free_ok X G (c.fact 20), He.free_ok X G (c.fact 21), He.free_ok X G (c.fact 22), He.free_ok X G (c.fact 23)⟩, errK_of (m := 4) X G (by decide) (by decide) c.all.2 (congrArg (fun z : AlX => z.2.2) c) top, ?_, ?_, ?_, ?_, ?_, ?_, ?_, ?_, ?_, ?_, ?_⟩
  · obtain ⟨fd, F⟩ := c.def_ 0
    exact ⟨_, fd, F, He.glo_ok X G (c.fact 0)⟩
  · obtain ⟨fd, F⟩ := c.def_ 1
    exact ⟨_, fd, F, He.glo_ok X G (c.fact 1)⟩
  · obtain ⟨fd, F⟩ := c.def_ 2
    exact ⟨_, fd, F, He.glo_ok X G (c.fact 2)⟩
  · obtain ⟨fd, F⟩ := c.def_ 3
    exact ⟨_, fd, F, He.glo_ok X G (c.fact 3)⟩
  · obtain ⟨fd, F⟩ := c.def_ 4
    exact ⟨_, fd, F, He.glo_ok X G (c.fact 4)⟩
  · obtain ⟨fd, F⟩ := c.def_ 5
    exact ⟨_, fd, F, He.glo_ok X G (c.fact 5)⟩
  · obtain ⟨fd, F⟩ := c.def_ 6
    exact ⟨_, fd, F, He.glo_ok X G (c.fact 6)⟩
  · obtain ⟨fd, F⟩ := c.def_ 7
    exact ⟨_, fd, F, He.glo_ok X G (c.fact 7)⟩
  · obtain ⟨fd, F⟩ := c.def_ 8
    exact ⟨_, fd, F, He.glo_ok X G (c.fact 8)⟩
  · obtain ⟨fd, F⟩ := c.def_ 9
    exact ⟨_, fd, F, He.glo_ok X G (c.fact 9)⟩
  · obtain ⟨fd, F⟩ := c.def_ 10
    exact ⟨_, fd, F, He.glo_ok X G (c.fact 10)⟩
end Gk68

namespace Gk68
open PySem PySem.Spec L2 RZ RQ
/-! ### the pot -/
def potC (a b c : Int) : Cell := .lst [.int a, .int b, .int c]
def primes : List Int := [2147483647, 2147483629, 2147483587, 2147483579, 2147483563]
def takeP (a b c u : Int) : Int × Int × Int × Int :=
  if 0 < a then (a % u, a / u, b, c) else
    let p := primes.getD ((c + 1) % 5).toNat 0
    let b1 := (b + 98363 * (c + 1) * (c + 1) + 431) ^ 3 % p
    (b1 * (b1 % 10009 + 89 * (c + 1)) % 2305843009213693907 / 173 % u, a, b, c + 1)
structure Pot (a b c m : Int) : Prop where
  a0 : 0 ≤ a
  b0 : 0 ≤ b
  b1 : b < 2 ^ 61
  c0 : 0 ≤ c
  c1 : c ≤ m
theorem takeP_pot {a b c u m : Int} (h : Pot a b c m) (hu : 0 < u) : (0 ≤ (takeP a b c u).1 ∧ (takeP a b c u).1 < u) ∧ Pot (takeP a b c u).2.1 (takeP a b c u).2.2.1 (takeP a b c u).2.2.2 (m + 1) := by
  obtain ⟨h1, h2, h3, h4, h5⟩ := h
  unfold takeP
  split
  · exact ⟨⟨Int.emod_nonneg _ (by omega), Int.emod_lt_of_pos _ hu⟩, Int.ediv_nonneg h1 (by omega), h2, h3, h4, by show c ≤ m + 1; omega⟩
  · exact ⟨⟨Int.emod_nonneg _ (by omega), Int.emod_lt_of_pos _ hu⟩, h1, h2, h3, by show 0 ≤ c + 1; omega, by show c + 1 ≤ m + 1; omega⟩
theorem take_eq {a b c u : Int} {n : Nat} {st : Store} (h : st[n]? = some (potC a b c)) (hp : Pot a b c 999999) (hu : 0 < u) (hu2 : u < 1073741824) :
    f_law_take [.ref n, .int u] st = .ok (.int (takeP a b c u).1) (st.set n (potC (takeP a b c u).2.1 (takeP a b c u).2.2.1 (takeP a b c u).2.2.2)) := by
  obtain ⟨ha, hb, hb2, hc, hc2⟩ := hp
  unfold potC at h ⊢
  refine ev_def (st := st) ?_
  show m_law_take [some (.ref n), some (.int u), none, none, none] st = _
  have e0 : ∀ {s : Store} {x y z : Int}, s[n]? = some (.lst [.int x, .int y, .int z]) → bIx (.ref n) (.int 0) s = some (.int x, s) := fun e => b_ix e rfl
  have e1 : ∀ {s : Store} {x y z : Int}, s[n]? = some (.lst [.int x, .int y, .int z]) → bIx (.ref n) (.int 1) s = some (.int y, s) := fun e => b_ix e rfl
  have e2 : ∀ {s : Store} {x y z : Int}, s[n]? = some (.lst [.int x, .int y, .int z]) → bIx (.ref n) (.int 2) s = some (.int z, s) := fun e => b_ix e rfl
  by_cases h0 : 0 < a
  · have et : takeP a b c u = (a % u, a / u, b, c) := if_pos h0
    rw [et]
    refine ev_seqR (ev_ifT (ev_t (ev_bin (ev_bin ev_var ev_c (e0 h)) ev_c (b_gt.trans (by rw [decide_eq_true h0])))) ?_)
    refine ev_seq (ev_asg (ev_bin (ev_B (ev_cons (ev_bin ev_var ev_c (e0 h)) ev_nil) b_int) ev_var (b_mod hu)) ev_gN) ?_
    refine ev_seq (ev_asg (ev_bin (ev_bin ev_var ev_c (e0 h)) ev_var (b_div hu hu2)) (ev_gS ev_var ev_c (b_set h rfl))) ?_
    exact ev_ret ev_var
  · have et : takeP a b c u = _ := if_neg h0
    rw [et]
    have hs := get_set (c' := .lst [.int a, .int b, .int (c + 1)]) h
    have hfc : fits64 (c + 1) = true := fits_of (by omega) (by omega)
    have hq : (98363 * (c + 1) * (c + 1)) ≤ 98363 * 1000000 * 1000000 := by
      have h1 : (98363 * (c + 1)) * (c + 1) ≤ (98363 * 1000000) * (c + 1) := Int.mul_le_mul_of_nonneg_right (by omega) (by omega)
      have h2 : (98363 * 1000000) * (c + 1) ≤ (98363 * 1000000) * 1000000 := Int.mul_le_mul_of_nonneg_left (by omega) (by omega)
      omega
    have hq0 : 0 ≤ 98363 * (c + 1) * (c + 1) := Int.mul_nonneg (by omega) (by omega)
    have hX : Builtin.Int.intBits (b + 98363 * (c + 1) * (c + 1) + 431) ≤ 64 := bits_of (by omega) (by omega)
    have hp : (Builtin.Int.intBits (b + 98363 * (c + 1) * (c + 1) + 431) : Int) * 3 ≤ 2 ^ 27 := by omega
    have h5 : 0 ≤ (c + 1) % 5 ∧ (c + 1) % 5 < 5 := by omega
    have hpr : ∃ p : Int, primes.getD ((c + 1) % 5).toNat 0 = p ∧ 0 < p ∧ p < 2 ^ 31 ∧ atI [D.int 2147483647, .int 2147483629, .int 2147483587, .int 2147483579, .int 2147483563] ((c + 1) % 5) = some (.int p) := by
      have h5 : (c + 1) % 5 = 0 ∨ (c + 1) % 5 = 1 ∨ (c + 1) % 5 = 2 ∨ (c + 1) % 5 = 3 ∨ (c + 1) % 5 = 4 := by omega
      rcases h5 with h5 | h5 | h5 | h5 | h5 <;> rw [h5] <;> exact ⟨_, rfl, by decide, by decide, rfl⟩
    obtain ⟨p, ep, p1, p2, pa⟩ := hpr
    rw [ep]
    have hm : fits64 ((b + 98363 * (c + 1) * (c + 1) + 431) ^ 3 % p) = true := fits_of (Int.emod_nonneg _ (by omega)) (by have := Int.emod_lt_of_pos ((b + 98363 * (c + 1) * (c + 1) + 431) ^ 3) p1; omega)
    refine ev_seq (ev_ifF (ev_t (ev_bin (ev_bin ev_var ev_c (e0 h)) ev_c (b_gt.trans (by rw [decide_eq_false h0])))) ev_next) ?_
    refine ev_seq (ev_asg (ev_bin (ev_bin ev_var ev_c (e2 h)) ev_c b_add) (ev_gS ev_var ev_c (b_set h rfl))) ?_
    refine ev_seq (ev_asg (ev_ixL (ev_lst (ev_cons ev_c (ev_cons ev_c (ev_cons ev_c (ev_cons ev_c (ev_cons ev_c ev_nil)))))) (ev_bin (ev_B (ev_cons (ev_bin ev_var ev_c (e2 hs)) ev_nil) b_int) ev_c (b_mod (by decide))) pa) ev_gN) ?_
    refine ev_seq (ev_asg (ev_bin (ev_B (ev_cons (ev_bin (ev_B (ev_cons (ev_bin (ev_bin (ev_bin ev_var ev_c (e1 hs)) (ev_bin (ev_bin ev_c (ev_bin ev_var ev_c (e2 hs)) (b_mulR hfc)) (ev_bin ev_var ev_c (e2 hs)) (b_mulR hfc)) b_add) ev_c b_add) ev_nil) b_int) ev_c (b_pow (by decide) hp)) ev_nil) b_int) ev_var (b_mod p1)) ev_gN) ?_
    refine ev_seq (ev_asg (ev_bin (ev_B (ev_cons (ev_bin ev_var (ev_bin (ev_bin (ev_B (ev_cons ev_var ev_nil) b_int) ev_c (b_mod (by decide))) (ev_bin ev_c (ev_bin ev_var ev_c (e2 hs)) (b_mulR hfc)) b_add) (b_mulL hm)) ev_nil) b_int) ev_c (b_mod (by decide))) ev_gN) ?_
    exact ev_ret (ev_bin (ev_B (ev_cons (ev_bin ev_var ev_c (b_div (by decide) (by decide))) ev_nil) b_int) ev_var (b_mod hu))

theorem of_eq {a b c : Int} {n k : Nat} {st : Store} {l : List D} {d : D} (h : st[n]? = some (potC a b c)) (hk : st[k]? = some (.lst l)) (hnk : n ≠ k) (hp : Pot a b c 999999) (hl : 0 < l.length) (hl2 : l.length < 1073741824) (hd : atI l (takeP a b c l.length).1 = some d) :
    f_law_of f_law_take [.ref n, .ref k] st = .ok d (st.set n (potC (takeP a b c l.length).2.1 (takeP a b c l.length).2.2.1 (takeP a b c l.length).2.2.2)) := by
  refine ev_def (st := st) (ev_ret ?_)
  have hk2 : (st.set n (potC (takeP a b c l.length).2.1 (takeP a b c l.length).2.2.1 (takeP a b c l.length).2.2.2))[k]? = some (.lst l) := by rw [List.getElem?_set_ne hnk]; exact hk
  exact ev_bin ev_var (ev_call (ev_args (ev_cons ev_var (ev_cons (ev_CQ (ev_QE ev_var (seqD_ref hk)) rfl) ev_nil))) (take_eq (u := ((l.length : Nat) : Int)) h hp (by omega) (by omega))) (b_ix hk2 hd)
/-! ### the values -/
def v17 : List D := [.non, .bl true, .bl false, .int 0, .int (-1), .str "", .str "A", .tup [], .ref 1, .ref 2, .tup [.tup []], .tup [.non], .ref 3, .tup [.int 0], .tup [.str "a"], .tup [.int 1, .int 2], .tup [.int 1, .int 2, .bl true]]
def v5 : List D := [.tup [.int 1, .int 2, .str "1"], .str "eldest", .tup [.tup [.int 1, .int 2, .int 1]], .ref 5, .tup [.int 0, .str "a"]]
def s8 (p : Cell) : Store := [p, .lst [], .dic false [], .lst [.int 0], .lst v17, .dic false [(.str "a", .int 1)], .lst v5, .lst (v17 ++ v5)]
theorem odd_eq {a b c : Int} {d : D} (hp : Pot a b c 999999) (hd : atI (v17 ++ v5) (takeP a b c 22).1 = some d) :
    f_law_odd (f_law_of f_law_take) [.ref 0] [potC a b c] = .ok d (s8 (potC (takeP a b c 22).2.1 (takeP a b c 22).2.2.1 (takeP a b c 22).2.2.2)) := by
  refine ev_def (st := [potC a b c]) (ev_seq (ρ1 := [some (.ref 0), some (.ref 4)]) (s1 := [potC a b c, .lst [], .dic false [], .lst [.int 0], .lst v17]) rfl (ev_ret (ev_call (ev_args (ds := [.ref 0, .ref 7]) (s1 := s8 (potC a b c)) rfl) ?_)))
  exact of_eq (l := v17 ++ v5) rfl rfl (by decide) hp (by decide) (by decide) hd
def restM (g_law_made g_law_kinds : FD) : MS := (mSeq (mPar 3 4 (mCall g_law_made (mArgs 1 (mCons (mVar 2) mNil))) (mErr 0 (mCons (mVar 2) mNil))) (mSeq (mFor (mIE (mWE (mVar 3))) (gT 2 (gsC (gN 5) (gsC (gN 6) gsN))) (mSeq (mIf (mOr (mT (mBin bNeX (mErrVal 32 (mVar 6)) (mVar 2))) (mOr (mT (mBin bNeX (mB bRepr (mCons (mErrVal 32 (mVar 6)) mNil)) (mB bRepr (mCons (mVar 2) mNil)))) (mT (mBin bNeX (mM "list" bIndex (mCall g_law_kinds (mArgs 1 (mCons (mVar 6) mNil))) (mCons (mC (.bl true)) mNil)) (mVar 5))))) (mRet (mC (.bl false))) mNext) (mSeq (mIf (mOr (mT (mBin bNeX (mM "list" bCount (mCall g_law_kinds (mArgs 1 (mCons (mVar 6) mNil))) (mCons (mC (.bl true)) mNil)) (mC (.int 1)))) (mNot (mT (mIsErr 32 0 (mVar 6))))) (mRet (mC (.bl false))) mNext) (mIf (mNot (mT (mIsVE 32 (mVar 6)))) (mRet (mC (.bl false))) mNext)))) (mIf (mOr (mT (mBin bNeX (mB bRepr (mCons (mErrVal 32 (mVar 4)) mNil)) (mB bRepr (mCons (mVar 2) mNil)))) (mOr (mT (mBin bIn (mC (.bl true)) (mCall g_law_kinds (mArgs 1 (mCons (mVar 4) mNil))))) (mNot (mT (mIsVE 32 (mVar 4)))))) (mRet (mC (.bl false))) mNext)))
end Gk68

namespace Gk68
open PySem PySem.Spec L2 RZ RQ
theorem rest_0 (a b c : Int) (i : Int) (x3 x4 x5 x6 : Option D) : gcR 1 (fun _ _ => []) (restM (f_law_made f_law_made_too) (f_law_kinds f_law_kinds_too) [some (.ref 0), some (.int i), some (.non), x3, x4, x5, x6] (s8 (potC a b c))) = .nx [some (.ref 0), some (.int i), some (.non), none, some (.exc 0 (.non)), some (.int 30), some (.exc 31 (.non))] [potC a b c] := by kernel_rfl
theorem rest_1 (a b c : Int) (i : Int) (x3 x4 x5 x6 : Option D) : gcR 1 (fun _ _ => []) (restM (f_law_made f_law_made_too) (f_law_kinds f_law_kinds_too) [some (.ref 0), some (.int i), some (.bl true), x3, x4, x5, x6] (s8 (potC a b c))) = .nx [some (.ref 0), some (.int i), some (.bl true), none, some (.exc 0 (.bl true)), some (.int 30), some (.exc 31 (.bl true))] [potC a b c] := by kernel_rfl
theorem rest_2 (a b c : Int) (i : Int) (x3 x4 x5 x6 : Option D) : gcR 1 (fun _ _ => []) (restM (f_law_made f_law_made_too) (f_law_kinds f_law_kinds_too) [some (.ref 0), some (.int i), some (.bl false), x3, x4, x5, x6] (s8 (potC a b c))) = .nx [some (.ref 0), some (.int i), some (.bl false), none, some (.exc 0 (.bl false)), some (.int 30), some (.exc 31 (.bl false))] [potC a b c] := by kernel_rfl
theorem rest_3 (a b c : Int) (i : Int) (x3 x4 x5 x6 : Option D) : gcR 1 (fun _ _ => []) (restM (f_law_made f_law_made_too) (f_law_kinds f_law_kinds_too) [some (.ref 0), some (.int i), some (.int 0), x3, x4, x5, x6] (s8 (potC a b c))) = .nx [some (.ref 0), some (.int i), some (.int 0), none, some (.exc 0 (.int 0)), some (.int 30), some (.exc 31 (.int 0))] [potC a b c] := by kernel_rfl
theorem rest_4 (a b c : Int) (i : Int) (x3 x4 x5 x6 : Option D) : gcR 1 (fun _ _ => []) (restM (f_law_made f_law_made_too) (f_law_kinds f_law_kinds_too) [some (.ref 0), some (.int i), some (.int (-1)), x3, x4, x5, x6] (s8 (potC a b c))) = .nx [some (.ref 0), some (.int i), some (.int (-1)), none, some (.exc 0 (.int (-1))), some (.int 30), some (.exc 31 (.int (-1)))] [potC a b c] := by kernel_rfl
theorem rest_5 (a b c : Int) (i : Int) (x3 x4 x5 x6 : Option D) : gcR 1 (fun _ _ => []) (restM (f_law_made f_law_made_too) (f_law_kinds f_law_kinds_too) [some (.ref 0), some (.int i), some (.str ""), x3, x4, x5, x6] (s8 (potC a b c))) = .nx [some (.ref 0), some (.int i), some (.str ""), none, some (.exc 0 (.str "")), some (.int 30), some (.exc 31 (.str ""))] [potC a b c] := by kernel_rfl
theorem rest_6 (a b c : Int) (i : Int) (x3 x4 x5 x6 : Option D) : gcR 1 (fun _ _ => []) (restM (f_law_made f_law_made_too) (f_law_kinds f_law_kinds_too) [some (.ref 0), some (.int i), some (.str "A"), x3, x4, x5, x6] (s8 (potC a b c))) = .nx [some (.ref 0), some (.int i), some (.str "A"), none, some (.exc 0 (.str "A")), some (.int 30), some (.exc 31 (.str "A"))] [potC a b c] := by kernel_rfl
theorem rest_7 (a b c : Int) (i : Int) (x3 x4 x5 x6 : Option D) : gcR 1 (fun _ _ => []) (restM (f_law_made f_law_made_too) (f_law_kinds f_law_kinds_too) [some (.ref 0), some (.int i), some (.tup []), x3, x4, x5, x6] (s8 (potC a b c))) = .nx [some (.ref 0), some (.int i), some (.tup []), none, some (.exc 0 (.tup [])), some (.int 30), some (.exc 31 (.tup []))] [potC a b c] := by kernel_rfl
theorem rest_8 (a b c : Int) (i : Int) (x3 x4 x5 x6 : Option D) : gcR 1 (fun _ _ => []) (restM (f_law_made f_law_made_too) (f_law_kinds f_law_kinds_too) [some (.ref 0), some (.int i), some (.ref 1), x3, x4, x5, x6] (s8 (potC a b c))) = .nx [some (.ref 0), some (.int i), none, none, none, some (.int 30), none] [potC a b c] := by kernel_rfl
theorem rest_9 (a b c : Int) (i : Int) (x3 x4 x5 x6 : Option D) : gcR 1 (fun _ _ => []) (restM (f_law_made f_law_made_too) (f_law_kinds f_law_kinds_too) [some (.ref 0), some (.int i), some (.ref 2), x3, x4, x5, x6] (s8 (potC a b c))) = .nx [some (.ref 0), some (.int i), none, none, none, some (.int 30), none] [potC a b c] := by kernel_rfl
theorem rest_10 (a b c : Int) (i : Int) (x3 x4 x5 x6 : Option D) : gcR 1 (fun _ _ => []) (restM (f_law_made f_law_made_too) (f_law_kinds f_law_kinds_too) [some (.ref 0), some (.int i), some (.tup [.tup []]), x3, x4, x5, x6] (s8 (potC a b c))) = .nx [some (.ref 0), some (.int i), some (.tup [.tup []]), none, some (.exc 0 (.tup [.tup []])), some (.int 30), some (.exc 31 (.tup [.tup []]))] [potC a b c] := by kernel_rfl
theorem rest_11 (a b c : Int) (i : Int) (x3 x4 x5 x6 : Option D) : gcR 1 (fun _ _ => []) (restM (f_law_made f_law_made_too) (f_law_kinds f_law_kinds_too) [some (.ref 0), some (.int i), some (.tup [.non]), x3, x4, x5, x6] (s8 (potC a b c))) = .nx [some (.ref 0), some (.int i), some (.tup [.non]), none, some (.exc 0 (.tup [.non])), some (.int 30), some (.exc 31 (.tup [.non]))] [potC a b c] := by kernel_rfl
theorem rest_12 (a b c : Int) (i : Int) (x3 x4 x5 x6 : Option D) : gcR 1 (fun _ _ => []) (restM (f_law_made f_law_made_too) (f_law_kinds f_law_kinds_too) [some (.ref 0), some (.int i), some (.ref 3), x3, x4, x5, x6] (s8 (potC a b c))) = .nx [some (.ref 0), some (.int i), none, none, none, some (.int 30), none] [potC a b c] := by kernel_rfl
theorem rest_13 (a b c : Int) (i : Int) (x3 x4 x5 x6 : Option D) : gcR 1 (fun _ _ => []) (restM (f_law_made f_law_made_too) (f_law_kinds f_law_kinds_too) [some (.ref 0), some (.int i), some (.tup [.int 0]), x3, x4, x5, x6] (s8 (potC a b c))) = .nx [some (.ref 0), some (.int i), some (.tup [.int 0]), none, some (.exc 0 (.tup [.int 0])), some (.int 30), some (.exc 31 (.tup [.int 0]))] [potC a b c] := by kernel_rfl
theorem rest_14 (a b c : Int) (i : Int) (x3 x4 x5 x6 : Option D) : gcR 1 (fun _ _ => []) (restM (f_law_made f_law_made_too) (f_law_kinds f_law_kinds_too) [some (.ref 0), some (.int i), some (.tup [.str "a"]), x3, x4, x5, x6] (s8 (potC a b c))) = .nx [some (.ref 0), some (.int i), some (.tup [.str "a"]), none, some (.exc 0 (.tup [.str "a"])), some (.int 30), some (.exc 31 (.tup [.str "a"]))] [potC a b c] := by kernel_rfl
theorem rest_15 (a b c : Int) (i : Int) (x3 x4 x5 x6 : Option D) : gcR 1 (fun _ _ => []) (restM (f_law_made f_law_made_too) (f_law_kinds f_law_kinds_too) [some (.ref 0), some (.int i), some (.tup [.int 1, .int 2]), x3, x4, x5, x6] (s8 (potC a b c))) = .nx [some (.ref 0), some (.int i), some (.tup [.int 1, .int 2]), none, some (.exc 0 (.tup [.int 1, .int 2])), some (.int 30), some (.exc 31 (.tup [.int 1, .int 2]))] [potC a b c] := by kernel_rfl
theorem rest_16 (a b c : Int) (i : Int) (x3 x4 x5 x6 : Option D) : gcR 1 (fun _ _ => []) (restM (f_law_made f_law_made_too) (f_law_kinds f_law_kinds_too) [some (.ref 0), some (.int i), some (.tup [.int 1, .int 2, .bl true]), x3, x4, x5, x6] (s8 (potC a b c))) = .nx [some (.ref 0), some (.int i), some (.tup [.int 1, .int 2, .bl true]), none, some (.exc 0 (.tup [.int 1, .int 2, .bl true])), some (.int 30), some (.exc 31 (.tup [.int 1, .int 2, .bl true]))] [potC a b c] := by kernel_rfl
theorem rest_17 (a b c : Int) (i : Int) (x3 x4 x5 x6 : Option D) : gcR 1 (fun _ _ => []) (restM (f_law_made f_law_made_too) (f_law_kinds f_law_kinds_too) [some (.ref 0), some (.int i), some (.tup [.int 1, .int 2, .str "1"]), x3, x4, x5, x6] (s8 (potC a b c))) = .nx [some (.ref 0), some (.int i), some (.tup [.int 1, .int 2, .str "1"]), none, some (.exc 0 (.tup [.int 1, .int 2, .str "1"])), some (.int 30), some (.exc 31 (.tup [.int 1, .int 2, .str "1"]))] [potC a b c] := by kernel_rfl
theorem rest_18 (a b c : Int) (i : Int) (x3 x4 x5 x6 : Option D) : gcR 1 (fun _ _ => []) (restM (f_law_made f_law_made_too) (f_law_kinds f_law_kinds_too) [some (.ref 0), some (.int i), some (.str "eldest"), x3, x4, x5, x6] (s8 (potC a b c))) = .nx [some (.ref 0), some (.int i), some (.str "eldest"), none, some (.exc 0 (.str "eldest")), some (.int 30), some (.exc 31 (.str "eldest"))] [potC a b c] := by kernel_rfl
theorem rest_19 (a b c : Int) (i : Int) (x3 x4 x5 x6 : Option D) : gcR 1 (fun _ _ => []) (restM (f_law_made f_law_made_too) (f_law_kinds f_law_kinds_too) [some (.ref 0), some (.int i), some (.tup [.tup [.int 1, .int 2, .int 1]]), x3, x4, x5, x6] (s8 (potC a b c))) = .nx [some (.ref 0), some (.int i), some (.tup [.tup [.int 1, .int 2, .int 1]]), none, some (.exc 0 (.tup [.tup [.int 1, .int 2, .int 1]])), some (.int 30), some (.exc 31 (.tup [.tup [.int 1, .int 2, .int 1]]))] [potC a b c] := by kernel_rfl
theorem rest_20 (a b c : Int) (i : Int) (x3 x4 x5 x6 : Option D) : gcR 1 (fun _ _ => []) (restM (f_law_made f_law_made_too) (f_law_kinds f_law_kinds_too) [some (.ref 0), some (.int i), some (.ref 5), x3, x4, x5, x6] (s8 (potC a b c))) = .nx [some (.ref 0), some (.int i), none, none, none, some (.int 30), none] [potC a b c] := by kernel_rfl
theorem rest_21 (a b c : Int) (i : Int) (x3 x4 x5 x6 : Option D) : gcR 1 (fun _ _ => []) (restM (f_law_made f_law_made_too) (f_law_kinds f_law_kinds_too) [some (.ref 0), some (.int i), some (.tup [.int 0, .str "a"]), x3, x4, x5, x6] (s8 (potC a b c))) = .nx [some (.ref 0), some (.int i), some (.tup [.int 0, .str "a"]), none, some (.exc 0 (.tup [.int 0, .str "a"])), some (.int 30), some (.exc 31 (.tup [.int 0, .str "a"]))] [potC a b c] := by kernel_rfl
end Gk68

namespace RQ
open PySem L2 RZ
section
variable {src : Src} {g : MG} {m : MS} {k i : Nat} {ρ ρ1 ρ2 : Rho} {st s1 s2 s3 : Store} {d : D} {r : RS}
theorem b_ixS {l : List Int} {j x : Int} (h : atI l j = some x) : bIx (.scr l) (.int j) st = some (.int x, st) := by
  show (atI l j).map _ = _
  rw [h]; rfl
theorem ev_QSl {m : Rho → Store → R D} {ml mh : Rho → Store → R (Option Int)} {lo hi : Option Int} {q : Sq} (h1 : m ρ st = .ok d s1) (h2 : ml ρ s1 = .ok lo s2) (h3 : mh ρ s2 = .ok hi s3) (h4 : slQ d lo hi s3 = .ok q s3) : mQSl m ml mh ρ st = .ok q s3 := by
  unfold mQSl
  rw [h1]
  show R.bind (ml ρ s1) _ = _
  rw [h2]
  show R.bind (mh ρ s2) _ = _
  rw [h3]
  exact h4
theorem ev_part {m : Rho → Store → R D} {j : Int} (h : m ρ st = .ok (.int j) s1) : mPart m ρ st = .ok (some j) s1 := by
  unfold mPart
  rw [h]
theorem ev_noPart : mNoPart ρ st = .ok none st := rfl
theorem ev_LR {ma mb : Rho → Store → R D} {a b : Int} (h1 : ma ρ st = .ok (.int a) s1) (h2 : mb ρ s1 = .ok (.int b) s2) (h3 : -(2 ^ 62) ≤ a ∧ a < 2 ^ 62 ∧ -(2 ^ 62) ≤ b ∧ b < 2 ^ 62 ∧ (b - a).toNat ≤ 1000000) : mLR ma mb ρ st = .ok (rngL a b) s2 := by
  unfold mLR
  rw [h1]
  show R.bind (mb ρ s1) _ = _
  rw [h2]
  exact if_pos (decide_eq_true h3)
theorem atI_of {α : Type} {l : List α} {j : Nat} {x : α} (h : l[j]? = some x) : atI l (j : Int) = some x := by
  unfold atI ixN
  have hl := (List.getElem?_eq_some_iff.mp h).1
  rw [if_pos (by omega), if_pos (by omega), Option.bind_some]
  exact h
end
end RQ
namespace Gk68
open PySem PySem.Spec L2 RZ RQ
theorem if01 {p : Prop} [Decidable p] : fits64 (if p then 1 else 0) = true := by split <;> decide
theorem if01n {p : Prop} [Decidable p] : (0 : Int) ≤ (if p then 1 else 0) := by split <;> decide
theorem pot_at {ns : List Int} {x : Int} {p : Nat} {st : Store} (hp : p ≤ 100)
    (hx : mIfE (mT (mBin bLt0 (mVar 1) (mCQ gLen (mQE (mVar 0))))) (mBin bIx (mVar 0) (mVar 1)) (mBin bAdd (mBin bAdd (mBin bMod (mCQ gSum (mQSl (mVar 0) mNoPart (mPart (mC (.int 1))))) (mC (.int 1000003))) (mBin bMul (mC (.int 1169)) (mVar 1))) (mC (.int 529))) [some (.scr ns), some (.int p), none, none, none] st = .ok (.int x) st) :
    ∃ a b, Pot a b 0 0 ∧ f_law_pot [.scr ns, .int p] st = .ok (.ref st.length) (st ++ [potC a b 0]) := by
  have h1169 : fits64 1169 = true := by decide
  have h8137 : fits64 8137 = true := by decide
  have h73215 : fits64 73215 = true := by decide
  have hpf : fits64 (p : Int) = true := fits_of (by omega) (by omega)
  generalize habs : (if x < 0 then -x else x) = y
  have e1 : mAsg (mBin bMul (mBin bMod (mB bInt (mCons (mB bAbs (mCons (mVar 2) mNil)) mNil)) (mBin bPow (mBin bPow (mC (.int 10)) (mC (.int 60))) (mC (.int 5)))) (mB bInt (mCons (mBin bGe0 (mB bAbs (mCons (mVar 2) mNil)) (mBin bPow (mC (.int 10)) (mC (.int 18)))) mNil))) (gN 3) [some (.scr ns), some (.int p), some (.int x), none, none] st
      = .nx [some (.scr ns), some (.int p), some (.int x), some (.int ((if x < 0 then -x else x) % (10 ^ Int.toNat 60) ^ Int.toNat 5 * (if decide (10 ^ Int.toNat 18 ≤ (if x < 0 then -x else x)) = true then 1 else 0))), none] st := by
    refine ev_asg (ev_bin (ev_bin (ev_B (ev_cons (ev_B (ev_cons ev_var ev_nil) b_abs) ev_nil) b_int) (ev_bin (ev_bin ev_c ev_c (b_pow (by decide) (by decide +kernel))) ev_c (b_pow (by decide) (by decide +kernel))) (b_mod (by decide +kernel))) (ev_B (ev_cons (ev_bin (ev_B (ev_cons ev_var ev_nil) b_abs) (ev_bin ev_c ev_c (b_pow (by decide) (by decide +kernel))) b_ge) ev_nil) b_intB) (b_mulR ?_)) ev_gN
    exact if01
  have e2 : mAsg (mBin bMod (mB bInt (mCons (mVar 2) mNil)) (mC (.int 2305843009213693951))) (gN 4) [some (.scr ns), some (.int p), some (.int x), some (.int ((if x < 0 then -x else x) % (10 ^ Int.toNat 60) ^ Int.toNat 5 * (if decide (10 ^ Int.toNat 18 ≤ (if x < 0 then -x else x)) = true then 1 else 0))), none] st
      = .nx [some (.scr ns), some (.int p), some (.int x), some (.int ((if x < 0 then -x else x) % (10 ^ Int.toNat 60) ^ Int.toNat 5 * (if decide (10 ^ Int.toNat 18 ≤ (if x < 0 then -x else x)) = true then 1 else 0))), some (.int (x % 2305843009213693951))] st :=
    ev_asg (ev_bin (ev_B (ev_cons ev_var ev_nil) b_int) ev_c (b_mod (by decide))) ev_gN
  refine ⟨_, _, ?_, ev_def (st := st) (ev_seq (ev_asg hx ev_gN) (ev_seq e1 (ev_seq e2 (ev_ret (ev_new (ev_lst (ev_cons ev_var (ev_cons (ev_bin (ev_B (ev_cons (ev_bin (ev_bin (ev_bin ev_var ev_c (b_mulR h73215)) (ev_bin (ev_bin ev_c ev_var (b_mulL h8137)) ev_var (b_mulR hpf)) b_add) ev_c b_add) ev_nil) b_int) ev_c (b_mod (by decide))) (ev_cons ev_c ev_nil)))))))))⟩
  refine ⟨Int.mul_nonneg (Int.emod_nonneg _ (by decide +kernel)) (if01n), Int.emod_nonneg _ (by decide), ?_, by decide, by decide⟩
  exact Int.lt_trans (Int.emod_lt_of_pos _ (by decide)) (by decide)
theorem pot_eq (ns : List Int) {p : Nat} (st : Store) (hp : p ≤ 100) : ∃ a b, Pot a b 0 0 ∧ f_law_pot [.scr ns, .int p] st = .ok (.ref st.length) (st ++ [potC a b 0]) := by
  have h1169 : fits64 1169 = true := by decide
  have hlen : mT (mBin bLt0 (mVar 1) (mCQ gLen (mQE (mVar 0)))) [some (.scr ns), some (.int p), none, none, none] st = .ok (decide ((p : Int) < (ns.length : Int))) st := by
    refine ev_t (ev_bin ev_var (ev_CQ (ev_QE ev_var rfl) rfl) ?_)
    show some (D.bl (decide ((p : Int) < ((ns.map D.int).length : Int))), st) = _
    rw [List.length_map]
  by_cases h : p < ns.length
  · obtain ⟨x, hx⟩ : ∃ x, ns[p]? = some x := ⟨_, List.getElem?_eq_getElem h⟩
    exact pot_at hp (ev_ifET (hlen.trans (by rw [decide_eq_true (show (p : Int) < (ns.length : Int) by omega)])) (ev_bin ev_var ev_var (b_ixS (atI_of hx))))
  · refine pot_at (x := (cutD ns none (some 1)).sum % 1000003 + 1169 * (p : Int) + 529) hp (ev_ifEF (hlen.trans (by rw [decide_eq_false (show ¬ (p : Int) < (ns.length : Int) by omega)])) ?_)
    refine ev_bin (ev_bin (ev_bin (ev_CQ (ev_QSl ev_var ev_noPart (ev_part ev_c) rfl) ?_) ev_c (b_mod (by decide))) (ev_bin ev_c ev_var (b_mulL h1169)) b_add) ev_c b_add
    · show (intsD ((cutD ns none (some 1)).map D.int)).map _ = _
      rw [intsD_map]; rfl
/-! ### the places -/
def cellsL (k : Nat) : List D := (List.range k).map fun i => .int (i : Nat)
theorem cells_eq (ns : List Int) (st : Store) : ∃ k, 1 ≤ k ∧ k ≤ 3 ∧ f_law_cells [.scr ns, .int 3] st = .ok (.ref st.length) (st ++ [.lst (cellsL k)]) := by
  have hmin : mB bMin2 (mCons (mVar 1) (mCons (mCQ gLen (mQE (mVar 0))) mNil)) [some (.scr ns), some (.int 3)] st = .ok (.int (if (ns.length : Int) < 3 then ns.length else 3)) st := by
    refine ev_B (ev_cons ev_var (ev_cons (ev_CQ (ev_QE ev_var rfl) rfl) ev_nil)) ?_
    show some (D.int (if ((ns.map D.int).length : Int) < 3 then ((ns.map D.int).length : Int) else 3), st) = _
    rw [List.length_map]
  generalize hk : (if (ns.length : Int) < 3 then (ns.length : Int) else 3) = k at hmin
  have hk0 : 0 ≤ k ∧ k ≤ 3 := by rw [← hk]; split <;> omega
  have hmax : mB bMax2 (mCons (mC (.int 1)) (mCons (mB bMin2 (mCons (mVar 1) (mCons (mCQ gLen (mQE (mVar 0))) mNil))) mNil)) [some (.scr ns), some (.int 3)] st = .ok (.int (if k > 1 then k else 1)) st := ev_B (ev_cons ev_c (ev_cons hmin ev_nil)) rfl
  generalize hj : (if k > 1 then k else 1) = j at hmax
  have hj0 : 1 ≤ j ∧ j ≤ 3 := by rw [← hj]; split <;> omega
  refine ⟨j.toNat, by omega, by omega, ev_def (st := st) (ev_ret ?_)⟩
  have e := ev_new (ev_LR (a := 0) (b := j) ev_c hmax (by omega))
  refine e.trans ?_
  congr 3
  unfold rngL cellsL
  rw [Int.sub_zero]
  refine congrArg Cell.lst (List.map_congr_left fun i _ => ?_)
  rw [Int.zero_add]
/-- all of it, from what the check of one place does -/
theorem law_eq {g_right : FD} (hr : ∀ (n : Nat) (st : Store) (a b : Int), st[n]? = some (potC a b 0) → Pot a b 0 0 → ∃ c, g_right [.ref n] st = .ok (.bl true) (st.set n c)) (ns : List Int) : ∃ st, f_law f_law_cells g_right f_law_pot [.scr ns] [] = .ok (.bl true) st := by
  obtain ⟨k, k1, k3, hk⟩ := cells_eq ns []
  have lp : ∀ (f i : Nat) (st : Store) (acc : List D), i + f = k → st[0]? = some (.lst (cellsL k)) → acc.length ≤ i → ∃ st', lcS (srcC 0) (.nm 1) mYes (mCall g_right (mArgs 1 (mCons (mCall f_law_pot (mArgs 2 (mCons (mVar 0) (mCons (mVar 1) mNil)))) mNil))) [some (.scr ns), none] f i st acc = some (acc ++ List.replicate f (.bl true), st') := by
    intro f
    induction f with
    | zero =>
      intro i st acc hi h0 _
      refine ⟨st, ?_⟩
      unfold lcS srcC
      rw [h0]
      have : (cellsL k)[i]? = none := List.getElem?_eq_none (by simp [cellsL]; omega)
      show (match some (cellsL k)[i]? with | some none => some (acc, st) | _ => none) = _
      rw [this]
      simp
    | succ f ih =>
      intro i st acc hi h0 ha
      have hget : srcC 0 st i = some (some (.int (i : Nat))) := by
        unfold srcC
        rw [h0]
        show some (cellsL k)[i]? = _
        unfold cellsL
        rw [List.getElem?_map, List.getElem?_range (by omega)]; rfl
      obtain ⟨a, b, hp, he⟩ := pot_eq ns (p := i) st (by omega)
      obtain ⟨c, hc⟩ := hr st.length (st ++ [potC a b 0]) a b (by simp) hp
      have hst0 : 0 < st.length := (List.getElem?_eq_some_iff.mp h0).1
      have hme : mCall g_right (mArgs 1 (mCons (mCall f_law_pot (mArgs 2 (mCons (mVar 0) (mCons (mVar 1) mNil)))) mNil)) [some (.scr ns), some (.int (i : Nat))] st = .ok (.bl true) ((st ++ [potC a b 0]).set st.length c) :=
        ev_call (ev_args (ev_cons (ev_call (ev_args (ev_cons ev_var (ev_cons ev_var ev_nil))) he) ev_nil)) hc
      obtain ⟨st', hst'⟩ := ih (i + 1) ((st ++ [potC a b 0]).set st.length c) (acc ++ [.bl true]) (by omega) (by rw [List.getElem?_set_ne (by omega), List.getElem?_append_left hst0]; exact h0) (by simp; omega)
      refine ⟨st', ?_⟩
      unfold lcS
      rw [hget]
      show (match mYes [some (.scr ns), some (.int (i : Nat))] st with
        | .ok b s1 => if b = true then (match mCall g_right (mArgs 1 (mCons (mCall f_law_pot (mArgs 2 (mCons (mVar 0) (mCons (mVar 1) mNil)))) mNil)) [some (.scr ns), some (.int (i : Nat))] s1 with
            | .ok y s2 => if small acc.length = true then lcS (srcC 0) (.nm 1) mYes (mCall g_right (mArgs 1 (mCons (mCall f_law_pot (mArgs 2 (mCons (mVar 0) (mCons (mVar 1) mNil)))) mNil))) [some (.scr ns), none] f (i + 1) s2 (acc ++ [y]) else none
            | _ => none) else lcS (srcC 0) (.nm 1) mYes (mCall g_right (mArgs 1 (mCons (mCall f_law_pot (mArgs 2 (mCons (mVar 0) (mCons (mVar 1) mNil)))) mNil))) [some (.scr ns), none] f (i + 1) s1 acc
        | _ => none) = _
      show (if true = true then (match mCall g_right (mArgs 1 (mCons (mCall f_law_pot (mArgs 2 (mCons (mVar 0) (mCons (mVar 1) mNil)))) mNil)) [some (.scr ns), some (.int (i : Nat))] st with
            | .ok y s2 => if small acc.length = true then lcS (srcC 0) (.nm 1) mYes (mCall g_right (mArgs 1 (mCons (mCall f_law_pot (mArgs 2 (mCons (mVar 0) (mCons (mVar 1) mNil)))) mNil))) [some (.scr ns), none] f (i + 1) s2 (acc ++ [y]) else none
            | _ => none) else _) = _
      rw [if_pos rfl, hme]
      show (if small acc.length = true then _ else none) = _
      rw [if_pos (by unfold small; exact decide_eq_true (by omega)), hst', List.append_assoc]
      rfl
  obtain ⟨stF, hF⟩ := lp k 0 [.lst (cellsL k)] [] (by omega) rfl (by simp)
  refine ⟨stF, ev_def (st := []) (ev_ret ?_)⟩
  refine ev_CQ (q := (false, List.replicate k (.bl true))) (s1 := stF) (ev_QL ?_) ?_
  · unfold mLC
    have hs : mIW (mWE (mCall f_law_cells (mArgs 2 (mCons (mVar 0) (mCons (mC (.int 3)) mNil))))) [some (.scr ns), none] [] = .ok (srcC 0, (cellsL k).length) [.lst (cellsL k)] := by
      unfold mIW mWE
      rw [ev_call (ev_args (ev_cons ev_var (ev_cons ev_c ev_nil))) hk]
      rfl
    show R.bind (mIW _ [some (.scr ns), none] []) _ = _
    rw [hs]
    show ofL (lcS (srcC 0) (.nm 1) mYes _ [some (.scr ns), none] (cellsL k).length 0 [.lst (cellsL k)] []) = _
    rw [show (cellsL k).length = k by simp [cellsL], hF]
    rfl
  · show (blsD (List.replicate k (.bl true))).map _ = _
    have : List.replicate k (D.bl true) = (List.replicate k true).map D.bl := by simp
    rw [this, blsD_map]
    show some (D.bl ((List.replicate k true).all id), stF) = _
    have : (List.replicate k true).all id = true := by simp
    rw [this]
end Gk68

namespace RQ
open PySem L2 RZ
section
variable {src : Src} {g : MG} {m : MS} {k i : Nat} {ρ ρ1 ρ2 : Rho} {st s1 s2 : Store} {d : D} {r : RS} {ms : Rho → Store → R (Src × Nat)} {p : Src × Nat}
theorem ev_forStep (h1 : src st i = some (some d)) (h2 : g d ρ st = .ok ρ1 s1) (h3 : m ρ1 s1 = .nx ρ2 s2) (h4 : forS src g m k (i + 1) ρ2 s2 = r) : forS src g m (k + 1) i ρ st = r := by
  unfold forS
  rw [h1]
  show R.toS (g d ρ st) _ = r
  rw [h2]
  show RS.turn (m ρ1 s1) _ = r
  rw [h3]
  exact h4
theorem ev_forEnd (h1 : src st i = some none) : forS src g m k i ρ st = .nx ρ st := by
  cases k <;> (unfold forS; rw [h1])
theorem ev_for (h1 : ms ρ st = .ok p s1) (h2 : forS p.1 g m p.2 0 ρ s1 = r) : mFor ms g m ρ st = r := by
  unfold mFor
  rw [h1]
  exact h2
/-- a def of one cell and flat answers, on a part of the store -/
def sel1 : List D → Store → List Nat := fun ds _ => match ds with
  | .ref n :: _ => [n]
  | _ => []
theorem fr_one {f : FD} {n : Nat} {c c' : Cell} {b : Bool} (h : st[n]? = some c) (hc : ∀ r, renC r c = some c) (hc' : ∀ r, renC r c' = some c') (hf : f [.ref 0] [c] = .ok (.bl b) [c']) : frF sel1 f [.ref n] st = .ok (.bl b) (st.set n c') := by
  have hn : n < st.length := (List.getElem?_eq_some_iff.mp h).1
  have e1 : rIn_ [n] n = some 0 := by simp [rIn_, List.idxOf?, List.findIdx?_cons]
  have e2 : renL (rIn_ [n]) [.ref n] = some [.ref 0] := by
    simp [renL, renD, e1]
  have e3 : shrS [n] st = some [c] := by
    unfold shrS mapO
    rw [h, Option.bind_some, hc]
    rfl
  have e4 : expS [n] st [c'] = some (st.set n c') := by
    unfold expS
    have a1 : mapO (fun j => match rIn_ [n] j with
        | some i => (([c'] : Store)[i]?).bind (renC (rOut [n] st.length))
        | none => st[j]?) (List.range st.length) = some ((List.range st.length).map fun j => (st.set n c').getD j default) := by
      refine mapO_all fun j hj => ?_
      have hj' : j < st.length := List.mem_range.mp hj
      by_cases q : j = n
      · subst q
        rw [e1]
        show (some c').bind _ = _
        rw [Option.bind_some, hc', List.getD_eq_getElem?_getD, List.getElem?_set_self hj']; rfl
      · have e5 : rIn_ [n] j = none := by
          unfold rIn_
          rw [List.idxOf?, List.findIdx?_eq_none_iff]
          intro x hx
          have : x = n := by simpa using hx
          subst this
          simpa using fun z => q z.symm
        rw [e5, List.getD_eq_getElem?_getD, List.getElem?_set_ne (Ne.symm q), List.getElem?_eq_getElem hj']; rfl
    change (match mapO (fun j => match rIn_ [n] j with
        | some i => (([c'] : Store)[i]?).bind (renC (rOut [n] st.length))
        | none => st[j]?) (List.range st.length), mapO (renC (rOut [n] st.length)) (([c'] : Store).drop [n].length) with
      | some a, some b => some (a ++ b)
      | _, _ => none) = _
    rw [a1]
    show some (_ ++ []) = _
    congr 1
    rw [List.append_nil]
    refine List.ext_getElem? fun j => ?_
    rw [List.getElem?_map]
    by_cases hj : j < st.length
    · rw [List.getElem?_range hj, List.getElem?_eq_getElem (by simpa using hj)]
      show some ((st.set n c').getD j default) = _
      rw [List.getD_eq_getElem?_getD, List.getElem?_eq_getElem (by simpa using hj)]; rfl
    · rw [List.getElem?_eq_none (by simpa using hj), List.getElem?_eq_none (by simpa using hj)]; rfl
  unfold frF
  rw [show sel1 [.ref n] st = [n] from rfl, if_pos (by simp), e2, e3]
  show (match f [.ref 0] [c] with
    | .ok d st1 => (match renD (rOut [n] st.length) d, expS [n] st st1 with
      | some d', some st2 => R.ok d' st2
      | _, _ => .bad)
    | .exn k d st1 => (match renD (rOut [n] st.length) d, expS [n] st st1 with
      | some d', some st2 => .exn k d' st2
      | _, _ => .bad)
    | .bad => .bad) = _
  rw [hf]
  show (match some (D.bl b), expS [n] st [c'] with | some d', some st2 => R.ok d' st2 | _, _ => .bad) = _
  rw [e4]
end
end RQ
namespace Gk68
open PySem PySem.Spec L2 RZ RQ
theorem rest_all {x : Int} {d : D} (h0 : 0 ≤ x) (h1 : x < 22) (hd : atI (v17 ++ v5) x = some d) (a b c i : Int) (x3 x4 x5 x6 : Option D) :
    ∃ y2 y3 y4 y5 y6, gcR 1 (fun _ _ => []) (restM (f_law_made f_law_made_too) (f_law_kinds f_law_kinds_too) [some (.ref 0), some (.int i), some d, x3, x4, x5, x6] (s8 (potC a b c))) = .nx [some (.ref 0), some (.int i), y2, y3, y4, y5, y6] [potC a b c] := by
  have hx : x = 0 ∨ x = 1 ∨ x = 2 ∨ x = 3 ∨ x = 4 ∨ x = 5 ∨ x = 6 ∨ x = 7 ∨ x = 8 ∨ x = 9 ∨ x = 10 ∨ x = 11 ∨ x = 12 ∨ x = 13 ∨ x = 14 ∨ x = 15 ∨ x = 16 ∨ x = 17 ∨ x = 18 ∨ x = 19 ∨ x = 20 ∨ x = 21 := by omega
  rcases hx with rfl | rfl | rfl | rfl | rfl | rfl | rfl | rfl | rfl | rfl | rfl | rfl | rfl | rfl | rfl | rfl | rfl | rfl | rfl | rfl | rfl | rfl <;> cases hd
  · exact ⟨_, _, _, _, _, rest_0 a b c i x3 x4 x5 x6⟩
  · exact ⟨_, _, _, _, _, rest_1 a b c i x3 x4 x5 x6⟩
  · exact ⟨_, _, _, _, _, rest_2 a b c i x3 x4 x5 x6⟩
  · exact ⟨_, _, _, _, _, rest_3 a b c i x3 x4 x5 x6⟩
  · exact ⟨_, _, _, _, _, rest_4 a b c i x3 x4 x5 x6⟩
  · exact ⟨_, _, _, _, _, rest_5 a b c i x3 x4 x5 x6⟩
  · exact ⟨_, _, _, _, _, rest_6 a b c i x3 x4 x5 x6⟩
  · exact ⟨_, _, _, _, _, rest_7 a b c i x3 x4 x5 x6⟩
  · exact ⟨_, _, _, _, _, rest_8 a b c i x3 x4 x5 x6⟩
  · exact ⟨_, _, _, _, _, rest_9 a b c i x3 x4 x5 x6⟩
  · exact ⟨_, _, _, _, _, rest_10 a b c i x3 x4 x5 x6⟩
  · exact ⟨_, _, _, _, _, rest_11 a b c i x3 x4 x5 x6⟩
  · exact ⟨_, _, _, _, _, rest_12 a b c i x3 x4 x5 x6⟩
  · exact ⟨_, _, _, _, _, rest_13 a b c i x3 x4 x5 x6⟩
  · exact ⟨_, _, _, _, _, rest_14 a b c i x3 x4 x5 x6⟩
  · exact ⟨_, _, _, _, _, rest_15 a b c i x3 x4 x5 x6⟩
  · exact ⟨_, _, _, _, _, rest_16 a b c i x3 x4 x5 x6⟩
  · exact ⟨_, _, _, _, _, rest_17 a b c i x3 x4 x5 x6⟩
  · exact ⟨_, _, _, _, _, rest_18 a b c i x3 x4 x5 x6⟩
  · exact ⟨_, _, _, _, _, rest_19 a b c i x3 x4 x5 x6⟩
  · exact ⟨_, _, _, _, _, rest_20 a b c i x3 x4 x5 x6⟩
  · exact ⟨_, _, _, _, _, rest_21 a b c i x3 x4 x5 x6⟩
abbrev gOdd : FD := f_law_odd (f_law_of f_law_take)
abbrev gMade : FD := f_law_made f_law_made_too
abbrev gKinds : FD := f_law_kinds f_law_kinds_too
abbrev lapM : MS := mGc (fun _ _ => []) (mSeq (mAsg (mCall gOdd (mArgs 1 (mCons (mVar 0) mNil))) (gN 2)) (restM gMade gKinds))
theorem Pot.up {a b c m m' : Int} (h : Pot a b c m) (hm : m ≤ m') : Pot a b c m' := ⟨h.a0, h.b0, h.b1, h.c0, by have := h.c1; omega⟩
theorem lap_eq {a b c i m : Int} {x2 x3 x4 x5 x6 : Option D} (h : Pot a b c m) (hm : m ≤ 999999) :
    ∃ a' b' c' y2 y3 y4 y5 y6, Pot a' b' c' (m + 1) ∧ lapM [some (.ref 0), some (.int i), x2, x3, x4, x5, x6] [potC a b c] = .nx [some (.ref 0), some (.int i), y2, y3, y4, y5, y6] [potC a' b' c'] := by
  obtain ⟨⟨t0, t1⟩, tp⟩ := takeP_pot (u := 22) h (by decide)
  have hd : ∃ d, atI (v17 ++ v5) (takeP a b c 22).1 = some d := by
    unfold atI ixN
    rw [if_pos t0, if_pos (show (takeP a b c 22).1 < ((v17 ++ v5).length : Nat) by simpa [v17, v5] using t1), Option.bind_some]
    exact ⟨_, List.getElem?_eq_getElem (show (takeP a b c 22).1.toNat < (v17 ++ v5).length by simp [v17, v5]; omega)⟩
  obtain ⟨d, hd⟩ := hd
  obtain ⟨y2, y3, y4, y5, y6, e⟩ := rest_all t0 t1 hd (takeP a b c 22).2.1 (takeP a b c 22).2.2.1 (takeP a b c 22).2.2.2 i x3 x4 x5 x6
  refine ⟨_, _, _, y2, y3, y4, y5, y6, tp, ?_⟩
  show gcR 1 (fun _ _ => []) (mSeq (mAsg (mCall gOdd (mArgs 1 (mCons (mVar 0) mNil))) (gN 2)) (restM gMade gKinds) [some (.ref 0), some (.int i), x2, x3, x4, x5, x6] [potC a b c]) = _
  rw [ev_seq (m := mAsg (mCall gOdd (mArgs 1 (mCons (mVar 0) mNil))) (gN 2)) (ev_asg (ev_call (ev_args (ev_cons ev_var ev_nil)) (odd_eq (h.up hm) hd)) ev_gN) rfl]
  exact e
theorem right_eq {a b c m : Int} (h : Pot a b c m) (hm : m ≤ 999990) : ∃ a' b' c', Pot a' b' c' (m + 3) ∧ f_law_right gOdd gMade gKinds [.ref 0] [potC a b c] = .ok (.bl true) [potC a' b' c'] := by
  obtain ⟨a1, b1, c1, y2, y3, y4, y5, y6, p1, e1⟩ := lap_eq (i := 0) (x2 := none) (x3 := none) (x4 := none) (x5 := none) (x6 := none) h (by omega)
  obtain ⟨a2, b2, c2, z2, z3, z4, z5, z6, p2, e2⟩ := lap_eq (i := 1) (x2 := y2) (x3 := y3) (x4 := y4) (x5 := y5) (x6 := y6) p1 (by omega)
  obtain ⟨a3, b3, c3, w2, w3, w4, w5, w6, p3, e3⟩ := lap_eq (i := 2) (x2 := z2) (x3 := z3) (x4 := z4) (x5 := z5) (x6 := z6) p2 (by omega)
  refine ⟨a3, b3, c3, p3.up (by omega), ev_def (st := [potC a b c]) ?_⟩
  refine ev_seq (ρ1 := [some (.ref 0), some (.int 2), w2, w3, w4, w5, w6]) (s1 := [potC a3 b3 c3]) (ev_for (p := (srcR 0 3, 3)) (s1 := [potC a b c]) rfl ?_) (ev_ret ev_c)
  refine ev_forStep (d := .int 0) rfl ev_gN e1 ?_
  refine ev_forStep (d := .int 1) rfl ev_gN e2 ?_
  refine ev_forStep (d := .int 2) rfl ev_gN e3 ?_
  exact ev_forEnd rfl
theorem pot_ren (a b c : Int) (r : Nat → Option Nat) : renC r (potC a b c) = some (potC a b c) := rfl
end Gk68
namespace Gk68
open PySem PySem.Spec L2 RZ RQ
theorem plain (ns : List Int) (_ : ns.length ≤ 63) : ∃ st, f_law f_law_cells (frF sel1 (f_law_right gOdd gMade gKinds)) f_law_pot [.scr ns] [] = .ok (.bl true) st :=
  law_eq (fun n st a b h hp => by
    obtain ⟨a', b', c', _, e⟩ := right_eq hp (by decide)
    exact ⟨potC a' b' c', fr_one h (pot_ren a b 0) (pot_ren a' b' c') e⟩) ns
end Gk68

namespace Gk68
open PySem PySem.Spec L2 RZ RQ
theorem cal_law {P : Program} {w : World} {K : PySem.W.Frag} {h : Heap} {mg : Str → Option Value} {base : Heap} (X : K.In h) (G0 : h.Ns mainGlobals mg) (c : SaysX P.main.file 4 32 fa fn K) (top : (P.main.scope.names.lookup ("super" : Str)).isSome = false)
  : Cal P w K mg base 5 "law" 1 (Gk68.f_law Gk68.f_law_cells (RQ.frF RQ.sel1 (Gk68.f_law_right Gk68.gOdd Gk68.gMade Gk68.gKinds)) Gk68.f_law_pot) := by
  obtain ⟨G, E_, ⟨_, _, F_law_cells, M_law_cells⟩, ⟨_, _, F_law_take, M_law_take⟩, ⟨_, _, F_law_of, M_law_of⟩, ⟨_, _, F_law_odd, M_law_odd⟩, ⟨_, _, F_law_made_too, M_law_made_too⟩, ⟨_, _, F_law_made, M_law_made⟩, ⟨_, _, F_law_kinds_too, M_law_kinds_too⟩, ⟨_, _, F_law_kinds, M_law_kinds⟩, ⟨_, _, F_law_right, M_law_right⟩, ⟨_, _, F_law_pot, M_law_pot⟩, ⟨_, _, F_law, M_law⟩⟩ := facts (w := w) X G0 c top
  have c_law_cells := (ok_law_cells (P := P) (w := w) (base := base) F_law_cells M_law_cells G)
  have c_law_take := (ok_law_take (P := P) (w := w) (base := base) F_law_take M_law_take G)
  have c_law_of := (ok_law_of (P := P) (w := w) (base := base) F_law_of M_law_of G c_law_take)
  have c_law_odd := (ok_law_odd (P := P) (w := w) (base := base) F_law_odd M_law_odd G c_law_of)
  have c_law_made_too := (ok_law_made_too (P := P) (w := w) (base := base) F_law_made_too M_law_made_too G E_)
  have c_law_made := (ok_law_made (P := P) (w := w) (base := base) F_law_made M_law_made G E_ c_law_made_too)
  have c_law_kinds_too := (ok_law_kinds_too (P := P) (w := w) (base := base) F_law_kinds_too M_law_kinds_too G E_)
  have c_law_kinds := (ok_law_kinds (P := P) (w := w) (base := base) F_law_kinds M_law_kinds G E_ c_law_kinds_too)
  have c_law_right := (ok_law_right (P := P) (w := w) (base := base) F_law_right M_law_right G E_ c_law_odd c_law_made c_law_kinds).fr sel1
  have c_law_pot := (ok_law_pot (P := P) (w := w) (base := base) F_law_pot M_law_pot G)
  have c_law := (ok_law (P := P) (w := w) (base := base) F_law M_law G c_law_cells c_law_right c_law_pot)
  exact c_law
end Gk68
open PySem PySem.W PySem.Calls PyProof.Rows
theorem PySem.Challenge.cw_roadqueues_k68_errors_keep_any_value_holds : PySem.Challenge.rw_roadqueues_k68_errors_keep_any_value.Holds := by
  w_on; o_law
  refine HandSHeadRun.head_any (r := OpenLaw.row PySem.Challenge.rw_roadqueues_k68_errors_keep_any_value) (q := view (OpenLaw.row PySem.Challenge.rw_roadqueues_k68_errors_keep_any_value).prog [44]) (H := Gk68.hk) (ob := Gk68.ob) (M := 12000) (loose := Gk68.loose) (d := HandSHeadRun.topDef (OpenLaw.row PySem.Challenge.rw_roadqueues_k68_errors_keep_any_value).prog 44) (kwd := []) Gk68.ob_eq
    (by kernel_rfl) (fun s => by kernel_rfl) Gk68.run (by kernel_rfl) (by kernel_rfl) (by kernel_rfl) (by rfl) (by first | assumption | decide +kernel) (by decide +kernel) ⟨rfl, rfl, rfl, rfl, rfl, by decide +kernel⟩ ?hw ?hc
  case hw => w_witness2
  case hc =>
    refine RQ.law_endC (l := PySem.Challenge.rw_roadqueues_k68_errors_keep_any_value) (n := 63) (k := 5) (fn := Gk68.f_law Gk68.f_law_cells (RQ.frF RQ.sel1 (Gk68.f_law_right Gk68.gOdd Gk68.gMade Gk68.gKinds)) Gk68.f_law_pot) rfl (by decide) (by kernel_rfl) ⟨rfl, by decide, by decide⟩ ?F ?P
    case F =>
      intro w mg h Y G
      obtain ⟨K, KX, c⟩ := Y
      refine ⟨K, KX, fun base _ _ => ?_⟩
      have e : (HandSHeadRun.topDef (OpenLaw.row PySem.Challenge.rw_roadqueues_k68_errors_keep_any_value).prog 44).name = ("law" : PySem.Str) := by kernel_rfl
      rw [e]
      exact Gk68.cal_law (P := (PySem.Challenge.rw_roadqueues_k68_errors_keep_any_value).prog) KX G c (by kernel_rfl)
    case P => exact fun ns hl => Gk68.plain ns hl
