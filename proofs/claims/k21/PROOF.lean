import PyProof.Rows.All
import Wide.All
import OpenK.AllK
import Wide.FinOn
import HandS.ForMost
import HandS.ForExc
import HandS.Wide
import HandS.WideBits
import HandS.Lambda
import HandS.TupAny
import HandS.TupMul
import HandS.IsInst
import HandS.Gcd
import HandS.Zip
import HandS.ExcIs
import HandS.EndTab
import KE.IntBitsLaws
import HandS.ExcCtx
import HandS.HotCalls
import HandS.Text
import HandS.Style
import HandS.CallSlots
import HandS.CallLocal
import HandS.ExcInit
import HandS.ExcField
import HandS.ExcSuper
import KE.KExcSuper
import HandS.Flow
import HandS.RaiseMore
import PySem.Challenge.RW_wholesolved_k21_whole_units_as_pairs
set_option Elab.async false
set_option linter.all false
set_option maxRecDepth 100000
set_option maxHeartbeats 4000000
/-! MirA: a mirror of Python's values and heap in plain Lean (data D, a store of lists, computations M), and how a state of the hand layer bears it. -/
namespace Mir
open PySem L2

/-- a mirrored value: tuples are data, lists stand in the store -/
inductive D where
  | non | bl (b : Bool) | int (i : Int) | str (s : Str) | tup (ds : List D) | loc (n : Nat) | ty (k : Nat) | fn (k : Nat) | scr | exn (c : Nat) | raw (v : V)
abbrev Env := List (Option D)
abbrev Store := List (List D)
/-- a computation's end: a value, an error of the c-th class, or nothing told -/
inductive R (α : Type) where
  | ok (a : α) (st : Store) | exc (c : Nat) (st : Store) | bad
abbrev M (α : Type) := Store → R α
def mpure {α : Type} (a : α) : M α := fun st => .ok a st
def mbad {α : Type} : M α := fun _ => .bad
def mraise {α : Type} (c : Nat) : M α := fun st => .exc c st
def mbind {α β : Type} (m : M α) (k : α → M β) : M β := fun st => match m st with
  | .ok a st1 => k a st1
  | .exc c st1 => .exc c st1
  | .bad => .bad
/-- no error may leave -/
def mtot {α : Type} (m : M α) : M α := fun st => match m st with
  | .ok a st1 => .ok a st1
  | _ => .bad
/-- a computation of an expression -/
abbrev EM (α : Type) := Env → M α

/-- what is fixed: the written part, the tables of code objects, the classes of errors and the defs by their numbers -/
structure Gx where
  K : W.Frag
  T : List (Addr × Str)
  ct : Nat → Addr
  fa : Nat → Addr
  sa : Addr
  sn : List Int
  ea : Addr
  lc : Nat
  ed : Addr
/-- the class of an error by its number: from 1000 on, the class with a limit -/
def Gx.cl (G : Gx) (c : Nat) : Addr := G.ct (if c < 1000 then c else G.lc)
/-- the built-in types by their numbers -/
def tyName : Nat → String
  | 0 => "int" | 1 => "bool" | 2 => "str" | 3 => "tuple" | 4 => "list" | 5 => "NoneType" | _ => "dict"
/-! ### how a heap bears data -/
mutual
inductive Rp (K : Gx) (H : Hp) (L : List Addr) : V → D → Prop
  | non : Rp K H L .non .non
  | bl (b : Bool) : Rp K H L (.bl b) (.bl b)
  | int (i : Int) : Rp K H L (.int i) (.int i)
  | str (s : Str) : Rp K H L (.str s) (.str s)
  | tup {a : Addr} {xs : List V} {ds : List D} : SqT K.K H a xs → RpAll K H L xs ds → Rp K H L (.ref a) (.tup ds)
  | loc {a : Addr} {n : Nat} : L[n]? = some a → Rp K H L (.ref a) (.loc n)
  | ty (k : Nat) : Rp K H L (.ty (tyName k)) (.ty k)
  | fn (k : Nat) : Rp K H L (.ref (K.fa k)) (.fn k)
  | scr : Rp K H L (.ref K.sa) .scr
  | exn (c : Nat) (h : 1000 ≤ c → H K.ed = some (.xd [("limit", .int ((c : Int) - 1000))])) : Rp K H L (.ref K.ea) (.exn c)
  | raw (v : V) : Rp K H L v (.raw v)
inductive RpAll (K : Gx) (H : Hp) (L : List Addr) : List V → List D → Prop
  | nil : RpAll K H L [] []
  | cons {x : V} {d : D} {xs : List V} {ds : List D} : Rp K H L x d → RpAll K H L xs ds → RpAll K H L (x :: xs) (d :: ds)
end
/-- the script stands as it stood -/
def ScrOk (K : Gx) (H : Hp) (L : List Addr) : Prop := (Rd H K.sa (.lst (K.sn.map V.int)) ∧ K.sa ∉ L) ∨
  ∃ (o : Obj) (its : Array Value) (n : Nat), K.K.lookup K.sa = some o ∧ o.cls = .type "list" ∧ o.dict = none ∧ o.data = .seq its n ∧ its.size ≤ sizeLine ∧ Vals (K.sn.map V.int) its.toList
theorem ScrOk.sq {K : Gx} {H : Hp} {L : List Addr} (h : ScrOk K H L) : SqL K.K H K.sa (K.sn.map V.int) := by
  rcases h with ⟨h, _⟩ | h
  · exact .inl h
  · exact .inr h
/-- the heap bears the store, by the addresses L -/
structure Rs (K : Gx) (H : Hp) (L : List Addr) (st : Store) : Prop where
  len : L.length = st.length
  nd : L.Nodup
  at_ : ∀ (n : Nat) (a : Addr) (ds : List D), L[n]? = some a → st[n]? = some ds → ∃ xs, H a = some (.lst xs) ∧ RpAll K H L xs ds
  tabs : LamX.Tabs K.T H
  scr : ScrOk K H L
/-- what a computation may do to the heap: new lists, lists of the store changed, tables grown, new objects -/
structure Po (L L' : List Addr) (H H' : Hp) : Prop where
  pre : L <+: L'
  keep : ∀ b o, H b = some o → b ∉ L → (∀ ps, o ≠ .tbl ps) → H' b = some o
  new : ∀ b, b ∈ L' → b ∉ L → ∀ o, H b = some o → ∃ ps, o = .tbl ps
variable {K : Gx} {H H' H1 H2 : Hp} {L L' L1 L2 : List Addr} {st st' : Store}
theorem Po.refl (L : List Addr) (H : Hp) : Po L L H H := ⟨List.prefix_refl _, fun _ _ h _ _ => h, fun _ a b => absurd a b⟩
theorem Po.trans (p : Po L L1 H H1) (q : Po L1 L2 H1 H2) : Po L L2 H H2 where
  pre := p.pre.trans q.pre
  keep := fun b o h n nt => by
    have h1 := p.keep b o h n nt
    refine q.keep b o h1 (fun hm => ?_) nt
    obtain ⟨ps, e⟩ := p.new b hm n o h
    exact nt ps e
  new := fun b h n o ho => by
    by_cases h1 : b ∈ L1
    · exact p.new b h1 n o ho
    · cases o with
      | tbl ps => exact ⟨ps, rfl⟩
      | _ => exact q.new b h h1 _ (p.keep b _ ho n (fun ps z => by cases z))
/-- nothing of the store changed, new objects -/
theorem Po.ext (L : List Addr) (h : ∀ b o, H b = some o → (∀ ps, o ≠ .tbl ps) → H' b = some o) : Po L L H H' := ⟨List.prefix_refl _, fun b o e _ nt => h b o e nt, fun _ a b => absurd a b⟩
theorem pre_get {α : Type} {l l' : List α} (h : l <+: l') {n : Nat} {a : α} (e : l[n]? = some a) : l'[n]? = some a := by
  obtain ⟨t, rfl⟩ := h
  rw [List.getElem?_append_left (List.getElem?_eq_some_iff.mp e).1]
  exact e
theorem ScrOk.po (h : ScrOk K H L) (p : Po L L' H H') : ScrOk K H' L' := by
  rcases h with ⟨h, n⟩ | h
  · have key : ∀ o, H K.sa = some o → (∀ ps, o ≠ .tbl ps) → H' K.sa = some o ∧ K.sa ∉ L' := fun o e nt => ⟨p.keep _ _ e n nt, fun hm => by
      obtain ⟨ps, z⟩ := p.new _ hm n o e
      exact nt ps z⟩
    rcases h with h | ⟨o, h⟩
    · obtain ⟨a, b⟩ := key _ h (fun ps z => by cases z)
      exact .inl ⟨.inl a, b⟩
    · obtain ⟨a, b⟩ := key _ h (fun ps z => by cases z)
      exact .inl ⟨.inr ⟨o, a⟩, b⟩
  · exact .inr h
/-- a tuple stays -/
theorem SqT.po {a : Addr} {xs : List V} (h : SqT K.K H a xs) (p : Po L L' H H') (hL : ∀ b, b ∈ L → ∃ ys, H b = some (.lst ys)) : SqT K.K H' a xs := by
  rcases h with (h | ⟨o, h⟩) | h
  · refine .inl (.inl (p.keep _ _ h (fun hm => ?_) (fun ps z => by cases z)))
    obtain ⟨ys, e⟩ := hL _ hm
    rw [h] at e; cases e
  · refine .inl (.inr ⟨o, p.keep _ _ h (fun hm => ?_) (fun ps z => by cases z)⟩)
    obtain ⟨ys, e⟩ := hL _ hm
    rw [h] at e; cases e
  · exact .inr h
theorem Rs.lst (r : Rs K H L st) : ∀ b, b ∈ L → ∃ ys, H b = some (.lst ys) := fun b hb => by
  obtain ⟨n, hn⟩ := List.getElem?_of_mem hb
  have hl : n < L.length := (List.getElem?_eq_some_iff.mp hn).1
  have : n < st.length := by rw [← r.len]; exact hl
  obtain ⟨xs, e, _⟩ := r.at_ n b st[n] hn (List.getElem?_eq_getElem this)
  exact ⟨xs, e⟩
mutual
theorem Rp.po {v : V} {d : D} (h : Rp K H L v d) (p : Po L L' H H') (hL : ∀ b, b ∈ L → ∃ ys, H b = some (.lst ys)) : Rp K H' L' v d := by
  cases h with
  | non => exact .non
  | bl b => exact .bl b
  | int i => exact .int i
  | str s => exact .str s
  | tup h1 h2 => exact .tup (SqT.po h1 p hL) (RpAll.po h2 p hL)
  | loc h1 => exact .loc (pre_get p.pre h1)
  | ty k => exact .ty k
  | fn k => exact .fn k
  | scr => exact .scr
  | exn c h => exact .exn c fun hc => p.keep _ _ (h hc) (fun hm => by
      obtain ⟨ys, e⟩ := hL _ hm
      rw [h hc] at e; cases e) (fun ps z => by cases z)
  | raw v => exact .raw v
theorem RpAll.po {vs : List V} {ds : List D} (h : RpAll K H L vs ds) (p : Po L L' H H') (hL : ∀ b, b ∈ L → ∃ ys, H b = some (.lst ys)) : RpAll K H' L' vs ds := by
  cases h with
  | nil => exact .nil
  | cons h1 h2 => exact .cons (Rp.po h1 p hL) (RpAll.po h2 p hL)
end
theorem RpAll.length {vs : List V} {ds : List D} (h : RpAll K H L vs ds) : vs.length = ds.length := by
  induction vs generalizing ds with
  | nil => cases h; rfl
  | cons v vs ih => cases h with | cons h1 h2 => simp [ih h2]
theorem RpAll.get {vs : List V} {ds : List D} (h : RpAll K H L vs ds) {i : Nat} {d : D} (e : ds[i]? = some d) : ∃ v, vs[i]? = some v ∧ Rp K H L v d := by
  induction vs generalizing ds i with
  | nil => cases h; simp at e
  | cons v vs ih => cases h with
    | cons h1 h2 =>
      cases i with
      | zero => simp at e; subst e; exact ⟨v, rfl, h1⟩
      | succ i => simpa using ih h2 (by simpa using e)
theorem RpAll.get' {vs : List V} {ds : List D} (h : RpAll K H L vs ds) {i : Nat} {v : V} (e : vs[i]? = some v) : ∃ d, ds[i]? = some d ∧ Rp K H L v d := by
  have hl := h.length
  have hi : i < vs.length := (List.getElem?_eq_some_iff.mp e).1
  have : i < ds.length := by omega
  obtain ⟨v', e', r⟩ := h.get (List.getElem?_eq_getElem this)
  rw [e] at e'; cases e'
  exact ⟨_, List.getElem?_eq_getElem this, r⟩
theorem RpAll.app {vs ws : List V} {ds es : List D} (h : RpAll K H L vs ds) (g : RpAll K H L ws es) : RpAll K H L (vs ++ ws) (ds ++ es) := by
  induction vs generalizing ds with
  | nil => cases h; exact g
  | cons v vs ih => cases h with | cons h1 h2 => exact .cons h1 (ih h2)
theorem RpAll.take {vs : List V} {ds : List D} (h : RpAll K H L vs ds) (n : Nat) : RpAll K H L (vs.take n) (ds.take n) := by
  induction vs generalizing ds n with
  | nil => cases h; cases n <;> exact .nil
  | cons v vs ih => cases h with
    | cons h1 h2 => cases n with
      | zero => exact .nil
      | succ n => exact .cons h1 (ih h2 n)
theorem RpAll.drop {vs : List V} {ds : List D} (h : RpAll K H L vs ds) (n : Nat) : RpAll K H L (vs.drop n) (ds.drop n) := by
  induction vs generalizing ds n with
  | nil => cases h; cases n <;> exact .nil
  | cons v vs ih => cases h with
    | cons h1 h2 => cases n with
      | zero => exact .cons h1 h2
      | succ n => exact ih h2 n
theorem RpAll.set {vs : List V} {ds : List D} {v : V} {d : D} (h : RpAll K H L vs ds) (r : Rp K H L v d) (n : Nat) : RpAll K H L (vs.set n v) (ds.set n d) := by
  induction vs generalizing ds n with
  | nil => cases h; exact .nil
  | cons w vs ih => cases h with
    | cons h1 h2 => cases n with
      | zero => exact .cons r h2
      | succ n => exact .cons h1 (ih h2 n)
/-- a def's names: what stands in each slot -/
structure RpEnv (K : Gx) (H : Hp) (L : List Addr) (σ : St) (env : Env) : Prop where
  len : env.length = σ.length
  at_ : ∀ (i : Nat) (d : D), env[i]? = some (some d) → ∃ v, σ[i]? = some (some v) ∧ Rp K H L v d
theorem RpEnv.po {σ : St} {env : Env} (h : RpEnv K H L σ env) (p : Po L L' H H') (hL : ∀ b, b ∈ L → ∃ ys, H b = some (.lst ys)) : RpEnv K H' L' σ env := ⟨h.len, fun i d e => by
  obtain ⟨v, e', r⟩ := h.at_ i d e
  exact ⟨v, e', r.po p hL⟩⟩
theorem RpEnv.set {σ : St} {env : Env} {v : V} {d : D} (h : RpEnv K H L σ env) (r : Rp K H L v d) (i : Nat) : RpEnv K H L (σ.set i (some v)) (env.set i (some d)) := ⟨by rw [List.length_set, List.length_set]; exact h.len, fun j e q => by
  by_cases hj : j = i
  · subst hj
    by_cases hl : j < env.length
    · rw [List.getElem?_set_self hl] at q
      cases q
      exact ⟨v, List.getElem?_set_self (by rw [← h.len]; exact hl), r⟩
    · rw [List.getElem?_eq_none (by rw [List.length_set]; omega)] at q
      cases q
  · rw [List.getElem?_set_ne (Ne.symm hj)] at q ⊢
    exact h.at_ j e q⟩

/-! ### the readings -/
/-- an error of the c-th class -/
def ExE (G : Gx) (E : XK) (c : Nat) (H : Hp) : Prop := if c < 1000 then E (.ref (G.ct c)) none H else ∀ d, H d = some (.xd [("limit", .int ((c : Int) - 1000))]) → E (.ref (G.ct G.lc)) (some d) H
def Ex (G : Gx) (E : XK) (L : List Addr) (H : Hp) (c : Nat) (st : Store) : Prop := ∀ H' L', Po L L' H H' → Rs G H' L' st → ExE G E c H'
def Pst {α : Type} (G : Gx) (E : XK) (L : List Addr) (H : Hp) (r : R α) (k : α → Store → List Addr → Hp → Prop) : Prop := match r with
  | .ok a st' => ∀ H' L', Po L L' H H' → Rs G H' L' st' → k a st' L' H'
  | .exc c st' => Ex G E L H c st'
  | .bad => False
def tM (G : Gx) (E : XK) (m : EM D) : TE := fun σ H Q => ∃ L st env, Rs G H L st ∧ RpEnv G H L σ env ∧
  Pst G E L H (m env st) fun d _ L' H' => ∀ v, Rp G H' L' v d → Q v H'
def tT (G : Gx) (E : XK) (m : EM Bool) : TT := fun σ H Q => ∃ L st env, Rs G H L st ∧ RpEnv G H L σ env ∧
  Pst G E L H (m env st) fun b _ _ H' => Q b H'
def tA (G : Gx) (E : XK) (m : EM (List D)) : TA := fun σ H Q => ∃ L st env, Rs G H L st ∧ RpEnv G H L σ env ∧
  Pst G E L H (m env st) fun ds _ L' H' => ∀ vs, RpAll G H' L' vs ds → Q vs H'
theorem Pst.mono {α : Type} {G : Gx} {E : XK} {r : R α} {k k' : α → Store → List Addr → Hp → Prop} (h : Pst G E L H r k)
    (f : ∀ a st' L' H', Po L L' H H' → Rs G H' L' st' → k a st' L' H' → k' a st' L' H') : Pst G E L H r k' := by
  cases r with
  | ok a st' => exact fun H' L' p r => f a st' L' H' p r (h H' L' p r)
  | exc c st' => exact h
  | bad => exact h
/-- one computation behind another -/
theorem Pst.bind {α β : Type} {G : Gx} {E : XK} {m : M α} {f : α → M β} {k : β → Store → List Addr → Hp → Prop} (h : Pst G E L H (mbind m f st) k) :
    Pst G E L H (m st) fun a st1 L1 H1 => Pst G E L1 H1 (f a st1) k := by
  unfold mbind at h
  cases e : m st with
  | ok a st1 =>
    rw [e] at h
    intro H1 L1 p r
    show Pst G E L1 H1 (f a st1) k
    have h' : Pst G E L H (f a st1) k := h
    cases e2 : f a st1 with
    | ok b st2 =>
      rw [e2] at h'
      exact fun H2 L2 p2 r2 => h' H2 L2 (p.trans p2) r2
    | exc c st2 =>
      rw [e2] at h'
      exact fun H2 L2 p2 r2 => h' H2 L2 (p.trans p2) r2
    | bad => rw [e2] at h'; exact h'
  | exc c st1 => rw [e] at h; exact h
  | bad => rw [e] at h; exact h
theorem PE.imp {X : Cx} {e : Expr} {t t' : TE} (h : PE X e t) (i : ∀ σ H Q, t' σ H Q → t σ H Q) : PE X e t' := ⟨fun pins s σ H Q I q => h.run pins s σ H Q I (i σ H Q q)⟩
theorem PT.imp {X : Cx} {e : Expr} {t t' : TT} (h : PT X e t) (i : ∀ σ H Q, t' σ H Q → t σ H Q) : PT X e t' := ⟨fun pins s σ H Q I q => h.run pins s σ H Q I (i σ H Q q)⟩
theorem PA.imp {X : Cx} {es : List Expr} {t t' : TA} (h : PA X es t) (i : ∀ σ H Q, t' σ H Q → t σ H Q) : PA X es t' := ⟨fun pos pins s σ H Q I q => h.run pos pins s σ H Q I (i σ H Q q)⟩
theorem PS.imp {X : Cx} {e : Stmt} {t t' : TS} (h : PS X e t) (i : ∀ D σ H, t' D σ H → t D σ H) : PS X e t' := ⟨fun pins s σ H D I q => h.run pins s σ H D I (i D σ H q)⟩
theorem PSs.imp {X : Cx} {e : List Stmt} {t t' : TS} (h : PSs X e t) (i : ∀ D σ H, t' D σ H → t D σ H) : PSs X e t' := ⟨fun pins s σ H D I q => h.run pins s σ H D I (i D σ H q)⟩
end Mir
/-! MirB: the mirror's expressions, each with its rule. -/
namespace Mir
open PySem L2
variable {H H' H1 H2 : Hp} {L L' L1 L2 : List Addr} {st st' : Store} {X : Cx} {G : Gx} {E : XK}

/-! ### new objects -/
theorem Rs.free {K : Gx} (r : Rs K H L st) {p : Addr} (hp : H p = none) : p ∉ L := fun hm => by
  obtain ⟨ys, e⟩ := r.lst p hm
  rw [hp] at e; cases e
theorem new_keep {p : Addr} {o : HO} (hp : H p = none) : ∀ b u, H b = some u → upd H p o b = some u := fun b u e => by
  rw [upd_ne (ne_of_none e hp)]; exact e
theorem new_tup {K : Gx} (r : Rs K H L st) {p : Addr} {xs : List V} {ds : List D} (hp : H p = none) (h : RpAll K H L xs ds) :
    Po L L H (upd H p (.tup xs)) ∧ Rs K (upd H p (.tup xs)) L st ∧ Rp K (upd H p (.tup xs)) L (.ref p) (.tup ds) := by
  have po : Po L L H (upd H p (.tup xs)) := Po.ext L fun b o e _ => new_keep hp b o e
  refine ⟨po, ⟨r.len, r.nd, fun n a es h1 h2 => ?_, r.tabs.ext (new_keep hp), r.scr.po po⟩, .tup (.inl (.inl upd_same)) (h.po po r.lst)⟩
  obtain ⟨ys, e, q⟩ := r.at_ n a es h1 h2
  exact ⟨ys, new_keep hp _ _ e, q.po po r.lst⟩
theorem new_lst {K : Gx} (r : Rs K H L st) {p : Addr} {xs : List V} {ds : List D} (hp : H p = none) (h : RpAll K H L xs ds) :
    Po L (L ++ [p]) H (upd H p (.lst xs)) ∧ Rs K (upd H p (.lst xs)) (L ++ [p]) (st ++ [ds]) ∧ Rp K (upd H p (.lst xs)) (L ++ [p]) (.ref p) (.loc st.length) := by
  have hpL := r.free hp
  have po : Po L (L ++ [p]) H (upd H p (.lst xs)) := ⟨List.prefix_append _ _, fun b o e _ _ => new_keep hp b o e, fun b hb nb o e => by
    rcases List.mem_append.mp hb with z | z
    · exact absurd z nb
    · obtain rfl : b = p := by simpa using z
      rw [hp] at e; cases e⟩
  refine ⟨po, ⟨by simp [r.len], List.nodup_append.mpr ⟨r.nd, by simp, fun a ha b hb => ?_⟩, fun n a es h1 h2 => ?_, r.tabs.ext (new_keep hp), r.scr.po po⟩, .loc ?_⟩
  · obtain rfl : b = p := by simpa using hb
    exact fun z => hpL (z ▸ ha)
  · by_cases hn : n < L.length
    · rw [List.getElem?_append_left hn] at h1
      rw [List.getElem?_append_left (by rw [← r.len]; exact hn)] at h2
      obtain ⟨ys, e, q⟩ := r.at_ n a es h1 h2
      exact ⟨ys, new_keep hp _ _ e, q.po po r.lst⟩
    · have hn1 := (List.getElem?_eq_some_iff.mp h1).1
      have en : n = L.length := by rw [List.length_append] at hn1; simp at hn1; omega
      subst en
      rw [List.getElem?_append_right (Nat.le_refl _)] at h1
      simp at h1
      subst h1
      rw [r.len, List.getElem?_append_right (Nat.le_refl _)] at h2
      simp at h2
      subst h2
      exact ⟨xs, upd_same, h.po po r.lst⟩
  · rw [← r.len, List.getElem?_append_right (Nat.le_refl _)]
    simp
/-- a list of the store is changed -/
theorem set_lst {K : Gx} (r : Rs K H L st) {a : Addr} {n : Nat} {xs : List V} {ds : List D} (hn : L[n]? = some a) (h : RpAll K H L xs ds) :
    Po L L H (upd H a (.lst xs)) ∧ Rs K (upd H a (.lst xs)) L (st.set n ds) := by
  have ha : a ∈ L := List.mem_of_getElem? hn
  obtain ⟨y0, e0⟩ := r.lst a ha
  have po : Po L L H (upd H a (.lst xs)) := ⟨List.prefix_refl _, fun b o e nb _ => by rw [upd_ne (fun z : b = a => nb (by rw [z]; exact ha))]; exact e, fun _ x y => absurd x y⟩
  refine ⟨po, ⟨by rw [List.length_set]; exact r.len, r.nd, fun m b es h1 h2 => ?_, fun q hq => ?_, r.scr.po po⟩⟩
  · by_cases hm : m = n
    · subst hm
      rw [hn] at h1; cases h1
      have hl : m < st.length := by rw [← r.len]; exact (List.getElem?_eq_some_iff.mp hn).1
      rw [List.getElem?_set_self hl] at h2
      cases h2
      exact ⟨xs, upd_same, h.po po r.lst⟩
    · rw [List.getElem?_set_ne (Ne.symm hm)] at h2
      obtain ⟨ys, e, q⟩ := r.at_ m b es h1 h2
      have hb : b ≠ a := fun z => by
        subst z
        obtain ⟨l1, e1⟩ := List.getElem?_eq_some_iff.mp h1
        obtain ⟨l2, e2⟩ := List.getElem?_eq_some_iff.mp hn
        exact hm ((List.getElem_inj r.nd).mp (e1.trans e2.symm))
      exact ⟨ys, by rw [upd_ne hb]; exact e, q.po po r.lst⟩
  · obtain ⟨ps, h1, h2, h3⟩ := r.tabs q hq
    have hne : ∀ b u, H b = some u → (∀ z, u ≠ .lst z) → b ≠ a := fun b u e nt z => by
      subst z
      rw [e0] at e; cases e
      exact nt _ rfl
    refine ⟨ps, by rw [upd_ne (hne _ _ h1 (fun z w => by cases w))]; exact h1, h2, fun pos cv hc => ?_⟩
    obtain ⟨c, e1, e2⟩ := h3 pos cv hc
    exact ⟨c, e1, by rw [upd_ne (hne _ _ e2 (fun z w => by unfold LamX.CodeO at w; cases w))]; exact e2⟩
/-- what stands at a list of the store -/
theorem Rs.get {K : Gx} (r : Rs K H L st) {a : Addr} {n : Nat} {ds : List D} (hn : L[n]? = some a) (h : st[n]? = some ds) : ∃ xs, H a = some (.lst xs) ∧ RpAll K H L xs ds := r.at_ n a ds hn h

/-! ### names and constants -/
def eVar (i : Nat) : EM D := fun env st => match env[i]? with
  | some (some d) => .ok d st
  | _ => .bad
def eC (d : D) : EM D := fun _ st => .ok d st
theorem d_name {e : Expr} {i : Nat} (h : PE X e (tVar i)) : PE X e (tM G E (eVar i)) := PE.imp h fun σ H Q ⟨L, st, env, rs, re, p⟩ => by
  unfold eVar at p
  split at p
  · rename_i d e
    obtain ⟨v, e', r⟩ := re.at_ _ _ e
    exact ⟨v, e', p H L (Po.refl _ _) rs v r⟩
  · exact p.elim
theorem d_const {e : Expr} {v : V} {d : D} (h : PE X e (tC v)) (r : ∀ H L, Rp G H L v d) : PE X e (tM G E (eC d)) := PE.imp h fun σ H Q ⟨L, st, env, rs, re, p⟩ => p H L (Po.refl _ _) rs v (r H L)
theorem d_int {i j pos} : PE X (.Constant (.int i) j pos) (tM G E (eC (.int i))) := d_const pe_int fun _ _ => .int i
theorem d_bl {b j pos} : PE X (.Constant (.bool b) j pos) (tM G E (eC (.bl b))) := d_const pe_bl fun _ _ => .bl b
theorem d_non {j pos} : PE X (.Constant .none j pos) (tM G E (eC .non)) := d_const pe_non fun _ _ => .non
theorem d_str {x y : Str} {j pos} (h : x = y) : PE X (.Constant (.str x) j pos) (tM G E (eC (.str y))) := by subst h; exact d_const pe_str fun _ _ => .str x

/-! ### several expressions -/
def aNil : EM (List D) := fun _ st => .ok [] st
def aCons (m : EM D) (ms : EM (List D)) : EM (List D) := fun env => mbind (m env) fun d => mbind (ms env) fun ds => mpure (d :: ds)
theorem da_nil : PA X [] (tA G E aNil) := PA.imp pa_nil fun σ H Q ⟨L, st, env, rs, re, p⟩ => p H L (Po.refl _ _) rs [] .nil
theorem da_cons {e : Expr} {es : List Expr} {m : EM D} {ms : EM (List D)} (h : PE X e (tM G E m)) (hs : PA X es (tA G E ms))
    (hst : starEach (e :: es) X.env = (false, eval e X.env) :: starEach es X.env := by rfl) : PA X (e :: es) (tA G E (aCons m ms)) := by
  refine PA.imp (pa_cons h hs hst) fun σ H Q ⟨L, st, env, rs, re, p⟩ => ?_
  refine ⟨L, st, env, rs, re, (Pst.bind (m := m env) p).mono fun d st1 L1 H1 po1 rs1 q v rv => ?_⟩
  have re1 := re.po po1 rs.lst
  refine ⟨L1, st1, env, rs1, re1, (Pst.bind (m := ms env) q).mono fun ds st2 L2 H2 po2 rs2 q2 vs rvs => ?_⟩
  exact q2 H2 L2 (Po.refl _ _) rs2 (v :: vs) (.cons (rv.po po2 rs1.lst) rvs)
def eTup (ms : EM (List D)) : EM D := fun env => mbind (ms env) fun ds => if ds.length ≤ 16777216 then mpure (.tup ds) else mbad
def eLst (ms : EM (List D)) : EM D := fun env => mbind (ms env) fun ds st => if ds.length ≤ 16777216 then .ok (.loc st.length) (st ++ [ds]) else .bad
theorem d_tup {es : List Expr} {ms : EM (List D)} {x1 pos} (h : PA X es (tA G E ms)) : PE X (.Tuple es x1 pos) (tM G E (eTup ms)) := by
  refine PE.imp (pe_tup h) fun σ H Q ⟨L, st, env, rs, re, p⟩ => ?_
  refine ⟨L, st, env, rs, re, (Pst.bind (m := ms env) p).mono fun ds st1 L1 H1 po1 rs1 q vs rvs => ?_⟩
  by_cases hl : ds.length ≤ 16777216
  · rw [if_pos hl] at q
    refine ⟨by rw [rvs.length, sizeLine_eq]; exact hl, fun a ha => ?_⟩
    obtain ⟨po, rs2, rp⟩ := new_tup rs1 ha rvs
    exact q _ _ po rs2 _ rp
  · rw [if_neg hl] at q; exact q.elim
theorem d_lst {es : List Expr} {ms : EM (List D)} {pos} (h : PA X es (tA G E ms)) : PE X (.List es pos) (tM G E (eLst ms)) := by
  refine PE.imp (pe_lst h) fun σ H Q ⟨L, st, env, rs, re, p⟩ => ?_
  refine ⟨L, st, env, rs, re, (Pst.bind (m := ms env) p).mono fun ds st1 L1 H1 po1 rs1 q vs rvs => ?_⟩
  by_cases hl : ds.length ≤ 16777216
  · rw [if_pos hl] at q
    refine ⟨by rw [rvs.length, sizeLine_eq]; exact hl, fun a ha => ?_⟩
    obtain ⟨po, rs2, rp⟩ := new_lst rs1 ha rvs
    exact q _ _ po rs2 _ rp
  · rw [if_neg hl] at q; exact q.elim

/-! ### operators by values -/
abbrev O := Store → Option (D × Store)
def lift (o : O) : M D := fun st => match o st with
  | some (d, st') => .ok d st'
  | none => .bad
/-- what a rule by values is worth -/
def Fits (G : Gx) (L : List Addr) (H : Hp) (st : Store) (o : O) (Q : VK) (A : Prop) : Prop := ∀ d st', o st = some (d, st') → (∀ v H' L', Po L L' H H' → Rs G H' L' st' → Rp G H' L' v d → Q v H') → A
structure OpM (X : Cx) (G : Gx) (f : Value → Value → Sem Value) (g : D → D → O) : Prop where
  ex : ∃ r : R2, OpR X f r ∧ ∀ x y dx dy H L st Q, Rs G H L st → Rp G H L x dx → Rp G H L y dy → Fits G L H st (g dx dy) Q (r x y H Q)
def eBin (g : D → D → O) (a b : EM D) : EM D := fun env => mbind (a env) fun x => mbind (b env) fun y => lift (g x y)
theorem lift_k {α : Type} {o : O} {k : D → Store → List Addr → Hp → Prop} (h : Pst G E L H (lift o st) k) : ∃ d st', o st = some (d, st') ∧ ∀ H' L', Po L L' H H' → Rs G H' L' st' → k d st' L' H' := by
  unfold lift at h
  cases e : o st with
  | none => rw [e] at h; exact h.elim
  | some p => obtain ⟨d, st'⟩ := p; rw [e] at h; exact ⟨d, st', rfl, h⟩
theorem two {σ : St} {Q : VK} {r : R2} {g : D → D → O} {ma mb : EM D} {k : D → Store → List Addr → Hp → Prop}
    (hr : ∀ x y dx dy H L st Q, Rs G H L st → Rp G H L x dx → Rp G H L y dy → Fits G L H st (g dx dy) Q (r x y H Q))
    {env : Env} (rs : Rs G H L st) (re : RpEnv G H L σ env) (p : Pst G E L H (eBin g ma mb env st) k)
    (hk : ∀ d st' L' H', Po L L' H H' → Rs G H' L' st' → k d st' L' H' → ∀ v, Rp G H' L' v d → Q v H') : tOp r (tM G E ma) (tM G E mb) σ H Q := by
  refine ⟨L, st, env, rs, re, (Pst.bind (m := ma env) p).mono fun dx st1 L1 H1 po1 rs1 q x rx => ?_⟩
  have re1 := re.po po1 rs.lst
  refine ⟨L1, st1, env, rs1, re1, (Pst.bind (m := mb env) q).mono fun dy st2 L2 H2 po2 rs2 q2 y ry => ?_⟩
  obtain ⟨d, st3, e, q3⟩ := lift_k (α := Unit) q2
  refine hr x y dx dy H2 L2 st2 Q rs2 (rx.po po2 rs1.lst) ry d st3 e fun v H3 L3 po3 rs3 rv => ?_
  exact hk d st3 L3 H3 (po1.trans (po2.trans po3)) rs3 (q3 H3 L3 po3 rs3) v rv
theorem d_bin {a b : Expr} {op : Operator} {g : D → D → O} {ma mb : EM D} {pos} (ho : OpM X G (binaryOp op) g) (ha : PE X a (tM G E ma)) (hb : PE X b (tM G E mb)) : PE X (.BinOp a op b pos) (tM G E (eBin g ma mb)) := by
  obtain ⟨r, hr, hf⟩ := ho.ex
  exact PE.imp (pe_op hr ha hb) fun σ H Q ⟨L, st, env, rs, re, p⟩ => two hf rs re p fun d st' L' H' _ _ q => q
theorem d_cmp {a b : Expr} {op : CmpOp} {g : D → D → O} {ma mb : EM D} {pos} (ho : OpM X G (compareOp op) g) (ha : PE X a (tM G E ma)) (hb : PE X b (tM G E mb)) (hm : behindInMarks op b = false) : PE X (.Compare a [op] [b] pos) (tM G E (eBin g ma mb)) := by
  obtain ⟨r, hr, hf⟩ := ho.ex
  exact PE.imp (pe_cmpR hr ha hb hm) fun σ H Q ⟨L, st, env, rs, re, p⟩ => two hf rs re p fun d st' L' H' _ _ q => q
/-- a value that is a bool, as a test -/
def mBl (m : M D) : M Bool := mbind m fun d => match d with
  | .bl b => mpure b
  | _ => mbad
theorem mBl_k {m : M D} {k : Bool → Store → List Addr → Hp → Prop} (h : Pst G E L H (mBl m st) k) : Pst G E L H (m st) fun d st' L' H' => ∃ b, d = .bl b ∧ k b st' L' H' := by
  refine (Pst.bind (m := m) h).mono fun d st1 L1 H1 po rs q => ?_
  cases d with
  | bl b => exact ⟨b, rfl, q H1 L1 (Po.refl _ _) rs⟩
  | _ => exact q.elim
theorem d_cmpT {a b : Expr} {op : CmpOp} {g : D → D → O} {ma mb : EM D} {pos} (ho : OpM X G (compareOp op) g) (ha : PE X a (tM G E ma)) (hb : PE X b (tM G E mb)) (hm : behindInMarks op b = false) : PT X (.Compare a [op] [b] pos) (tT G E fun env => mBl (eBin g ma mb env)) := by
  obtain ⟨r, hr, hf⟩ := ho.ex
  refine PT.imp (pt_cmpR hr ha hb hm) fun σ H Q ⟨L, st, env, rs, re, p⟩ => ?_
  refine two (Q := fun x H' => ∃ k, x = .bl k ∧ Q k H') hf rs re (mBl_k p) fun d st' L' H' _ _ ⟨b, e, q⟩ v rv => ?_
  subst e
  cases rv
  exact ⟨b, rfl, q⟩
/-- a < b < c -/
def eChain (g g' : D → D → O) (a b c : EM D) : EM D := fun env => mbind (a env) fun x => mbind (b env) fun y => mbind (mBl (lift (g x y))) fun k => if k then mbind (c env) fun z => lift (g' y z) else mpure (.bl false)
theorem d_chain {a b c : Expr} {op op' : CmpOp} {g g' : D → D → O} {ma mb mc : EM D} {pos} (ho : OpM X G (compareOp op) g) (ho' : OpM X G (compareOp op') g') (ha : PE X a (tM G E ma)) (hb : PE X b (tM G E mb)) (hc : PE X c (tM G E mc))
    (h : ∀ r r' ta tb tc, OpR X (compareOp op) r → OpR X (compareOp op') r' → PE X a ta → PE X b tb → PE X c tc → PE X (.Compare a [op, op'] [b, c] pos) (tChain r r' ta tb tc)) : PE X (.Compare a [op, op'] [b, c] pos) (tM G E (eChain g g' ma mb mc)) := by
  obtain ⟨r, hr, hf⟩ := ho.ex
  obtain ⟨r', hr', hf'⟩ := ho'.ex
  refine PE.imp (h r r' _ _ _ hr hr' ha hb hc) fun σ H Q ⟨L, st, env, rs, re, p⟩ => ?_
  refine ⟨L, st, env, rs, re, (Pst.bind (m := ma env) p).mono fun dx st1 L1 H1 po1 rs1 q x rx => ?_⟩
  have re1 := re.po po1 rs.lst
  refine ⟨L1, st1, env, rs1, re1, (Pst.bind (m := mb env) q).mono fun dy st2 L2 H2 po2 rs2 q2 y ry => ?_⟩
  have re2 := re1.po po2 rs1.lst
  obtain ⟨d, st3, e, q3⟩ := lift_k (α := Unit) (mBl_k (Pst.bind (m := mBl (lift (g dx dy))) q2))
  refine hf x y dx dy H2 L2 st2 _ rs2 (rx.po po2 rs1.lst) ry d st3 e fun v H3 L3 po3 rs3 rv => ?_
  obtain ⟨k, ek, q4⟩ := q3 H3 L3 po3 rs3
  subst ek
  cases rv
  refine ⟨k, rfl, ?_⟩
  cases k with
  | false =>
    exact q4 H3 L3 (Po.refl _ _) rs3 (.bl false) (.bl false)
  | true =>
    have re3 := re2.po po3 rs2.lst
    refine ⟨L3, st3, env, rs3, re3, (Pst.bind (m := mc env) q4).mono fun dz st4 L4 H4 po4 rs4 q5 z rz => ?_⟩
    obtain ⟨d5, st5, e5, q6⟩ := lift_k (α := Unit) q5
    refine hf' y z dy dz H4 L4 st4 Q rs4 ((ry.po po3 rs2.lst).po po4 rs3.lst) rz d5 st5 e5 fun v H5 L5 po5 rs5 rv => ?_
    exact q6 H5 L5 po5 rs5 v rv

/-! ### one place -/
structure UnM (X : Cx) (G : Gx) (f : Value → Sem Value) (g : D → O) : Prop where
  ex : ∃ r : V → Hp → VK → Prop, UnR X f r ∧ ∀ x dx H L st Q, Rs G H L st → Rp G H L x dx → Fits G L H st (g dx) Q (r x H Q)
def eUn (g : D → O) (a : EM D) : EM D := fun env => mbind (a env) fun x => lift (g x)
theorem d_un {a : Expr} {op : UnaryOp} {g : D → O} {ma : EM D} {pos} (ho : UnM X G (unaryOp op) g) (ha : PE X a (tM G E ma)) : PE X (.UnaryOp op a pos) (tM G E (eUn g ma)) := by
  obtain ⟨r, hr, hf⟩ := ho.ex
  refine PE.imp (pe_un hr ha) fun σ H Q ⟨L, st, env, rs, re, p⟩ => ?_
  refine ⟨L, st, env, rs, re, (Pst.bind (m := ma env) p).mono fun dx st1 L1 H1 po1 rs1 q x rx => ?_⟩
  obtain ⟨d, st3, e, q3⟩ := lift_k (α := Unit) q
  exact hf x dx H1 L1 st1 Q rs1 rx d st3 e fun v H3 L3 po3 rs3 rv => q3 H3 L3 po3 rs3 v rv

/-! ### built-ins called -/
structure CallM (X : Cx) (G : Gx) (f : Value) (g : List D → O) : Prop where
  ex : ∃ r : List V → Hp → VK → Prop, CallR X f r ∧ ∀ xs ds H L st Q, Rs G H L st → RpAll G H L xs ds → Fits G L H st (g ds) Q (r xs H Q)
def eCall (g : List D → O) (ms : EM (List D)) : EM D := fun env => mbind (ms env) fun ds => lift (g ds)
theorem callk {r : List V → Hp → VK → Prop} {g : List D → O} {ms : EM (List D)} (hf : ∀ xs ds H L st Q, Rs G H L st → RpAll G H L xs ds → Fits G L H st (g ds) Q (r xs H Q)) {σ : St} {H : Hp} {Q : VK} (h : tM G E (eCall g ms) σ H Q) :
    tCB r (tA G E ms) σ H Q := by
  obtain ⟨L, st, env, rs, re, p⟩ := h
  refine ⟨L, st, env, rs, re, (Pst.bind (m := ms env) p).mono fun ds st1 L1 H1 po1 rs1 q xs rx => ?_⟩
  obtain ⟨d, st3, e, q3⟩ := lift_k (α := Unit) q
  exact hf xs ds H1 L1 st1 Q rs1 rx d st3 e fun v H3 L3 po3 rs3 rv => q3 H3 L3 po3 rs3 v rv
theorem d_callB {x : Str} {id : String} {e : Expr} {es : List Expr} {g : List D → O} {ms : EM (List D)} {p pos} (hc : CallM X G (.builtin id) g) (hg : Gl X x) (hm : X.mg x = none) (hv : bootBuiltins x = some (.builtin id)) (ha : PA X (e :: es) (tA G E ms))
    (h : ∀ r t, CallR X (.builtin id) r → PA X (e :: es) t → PE X (.Call (.Name x p) (e :: es) [] pos) (tCB r t)) : PE X (.Call (.Name x p) (e :: es) [] pos) (tM G E (eCall g ms)) := by
  obtain ⟨r, hr, hf⟩ := hc.ex
  exact PE.imp (h r _ hr ha) fun σ H Q q => callk hf q
theorem d_callTy {x : Str} {id : String} {e : Expr} {es : List Expr} {g : List D → O} {ms : EM (List D)} {p pos} (hc : CallM X G (.type id) g) (hg : Gl X x) (hm : X.mg x = none) (hv : bootBuiltins x = some (.type id)) (ha : PA X (e :: es) (tA G E ms))
    (h : ∀ r t, CallR X (.type id) r → PA X (e :: es) t → PE X (.Call (.Name x p) (e :: es) [] pos) (tCB r t)) : PE X (.Call (.Name x p) (e :: es) [] pos) (tM G E (eCall g ms)) := by
  obtain ⟨r, hr, hf⟩ := hc.ex
  exact PE.imp (h r _ hr ha) fun σ H Q q => callk hf q

/-! ### tests -/
def truth (d : D) (st : Store) : Option Bool := match d with
  | .non => some false
  | .bl b => some b
  | .int i => some (i != 0)
  | .str s => if s.length ≤ 16777216 then some ((s.length : Int) != 0) else none
  | .tup ds => some (!ds.isEmpty)
  | .loc n => match st[n]? with
    | some ds => some (!ds.isEmpty)
    | none => none
  | _ => none
def mTruth (m : M D) : M Bool := mbind m fun d st => match truth d st with
  | some b => .ok b st
  | none => .bad
theorem isEmpty_of_len {α β : Type} {xs : List α} {ys : List β} (h : xs.length = ys.length) : xs.isEmpty = ys.isEmpty := by
  cases xs <;> cases ys <;> simp_all
theorem d_truth {a : Expr} {ma : EM D} (hK : X.K = G.K) (ha : PE X a (tM G E ma)) (he : ∀ whole, isTrue a X.env whole = (do let v ← whole; standAt a.pos; holding [v] (truthy v)) := by intro _; rfl) : PT X a (tT G E fun env => mTruth (ma env)) := by
  refine PT.imp (pt_truth ha he) fun σ H Q ⟨L, st, env, rs, re, p⟩ => ?_
  refine ⟨L, st, env, rs, re, (Pst.bind (m := ma env) p).mono fun d st1 L1 H1 po1 rs1 q v rv => ?_⟩
  have fin : ∀ b, truth d st1 = some b → TruV X.K v H1 b → ∃ k, TruV X.K v H1 k ∧ Q k H1 := fun b e t => by
    rw [e] at q
    exact ⟨b, t, q H1 L1 (Po.refl _ _) rs1⟩
  cases rv with
  | non => exact fin _ rfl rfl
  | bl b => exact fin _ rfl rfl
  | int i => exact fin _ rfl rfl
  | str s =>
    by_cases hl : s.length ≤ 16777216
    · exact fin ((s.length : Int) != 0) (by show (if s.length ≤ 16777216 then _ else _) = _; rw [if_pos hl]) ⟨by rw [sizeLine_eq]; exact hl, rfl⟩
    · have : truth (.str s) st1 = none := by show (if s.length ≤ 16777216 then _ else _) = _; rw [if_neg hl]
      rw [this] at q; exact q.elim
  | tup h1 h2 =>
    refine fin _ rfl (.inr (.inl ⟨_, by rw [hK]; exact h1, ?_⟩))
    rw [isEmpty_of_len h2.length]
  | @loc a n h1 =>
    cases e : st1[n]? with
    | none =>
      have : truth (.loc n) st1 = none := by show (match st1[n]? with | some ds => _ | none => _) = _; rw [e]
      rw [this] at q; exact q.elim
    | some ds =>
      obtain ⟨xs, hx, rx⟩ := rs1.get h1 e
      refine fin (!ds.isEmpty) (by show (match st1[n]? with | some ds => _ | none => _) = _; rw [e]) (.inl ⟨xs, SqL.of hx, ?_⟩)
      rw [isEmpty_of_len rx.length]
  | ty k => exact q.elim
  | fn k => exact q.elim
  | scr => exact q.elim
  | exn c => exact q.elim
  | raw w => exact q.elim
def bNot (m : EM Bool) : EM Bool := fun env => mbind (m env) fun b => mpure (!b)
def bAnd (m n : EM Bool) : EM Bool := fun env => mbind (m env) fun b => if b then n env else mpure false
def bOr (m n : EM Bool) : EM Bool := fun env => mbind (m env) fun b => if b then mpure true else n env
theorem PW.imp {e : Expr} {t t' : TT} (h : PW X e t) (i : ∀ σ H Q, t' σ H Q → t σ H Q) : PW X e t' := ⟨fun wh pins s σ H Q I q => h.run wh pins s σ H Q I (i σ H Q q)⟩
theorem dt_not {a : Expr} {m : EM Bool} {pos} (h : PT X a (tT G E m)) : PT X (.UnaryOp .Not a pos) (tT G E (bNot m)) := by
  refine PT.imp (pt_not h) fun σ H Q ⟨L, st, env, rs, re, p⟩ => ?_
  exact ⟨L, st, env, rs, re, (Pst.bind (m := m env) p).mono fun b st1 L1 H1 po1 rs1 q => q H1 L1 (Po.refl _ _) rs1⟩
theorem dw_and {a b : Expr} {rest : List Expr} {m n : EM Bool} {pos} (h : PT X a (tT G E m)) (h' : PW X (.BoolOp .And (b :: rest) pos) (tT G E n)) : PW X (.BoolOp .And (a :: b :: rest) pos) (tT G E (bAnd m n)) := by
  refine PW.imp (pw_and h h') fun σ H Q ⟨L, st, env, rs, re, p⟩ => ?_
  refine ⟨L, st, env, rs, re, (Pst.bind (m := m env) p).mono fun b st1 L1 H1 po1 rs1 q => ?_⟩
  cases b with
  | true => exact ⟨L1, st1, env, rs1, re.po po1 rs.lst, q⟩
  | false => exact q H1 L1 (Po.refl _ _) rs1
theorem dw_or {a b : Expr} {rest : List Expr} {m n : EM Bool} {pos} (h : PT X a (tT G E m)) (h' : PW X (.BoolOp .Or (b :: rest) pos) (tT G E n)) : PW X (.BoolOp .Or (a :: b :: rest) pos) (tT G E (bOr m n)) := by
  refine PW.imp (pw_or h h') fun σ H Q ⟨L, st, env, rs, re, p⟩ => ?_
  refine ⟨L, st, env, rs, re, (Pst.bind (m := m env) p).mono fun b st1 L1 H1 po1 rs1 q => ?_⟩
  cases b with
  | false => exact ⟨L1, st1, env, rs1, re.po po1 rs.lst, q⟩
  | true => exact q H1 L1 (Po.refl _ _) rs1
theorem dw_and1 {a : Expr} {m : EM Bool} {pos} (h : PT X a (tT G E m)) : PW X (.BoolOp .And [a] pos) (tT G E m) := pw_and1 h
theorem dw_or1 {a : Expr} {m : EM Bool} {pos} (h : PT X a (tT G E m)) : PW X (.BoolOp .Or [a] pos) (tT G E m) := pw_or1 h
/-- a and b, a or b as values, all but the last of them bools -/
def eAnd (a b : EM D) : EM D := fun env => mbind (mBl (a env)) fun k => if k then b env else mpure (.bl false)
def eOr (a b : EM D) : EM D := fun env => mbind (mBl (a env)) fun k => if k then mpure (.bl true) else b env
theorem d_one {a : Expr} {op} {m : EM D} {pos} (h : PE X a (tM G E m)) : PE X (.BoolOp op [a] pos) (tM G E m) := pe_one h
theorem d_and {a b : Expr} {rest : List Expr} {m n : EM D} {pos} (h : PE X a (tM G E m)) (h' : PE X (.BoolOp .And (b :: rest) pos) (tM G E n)) : PE X (.BoolOp .And (a :: b :: rest) pos) (tM G E (eAnd m n)) := by
  refine PE.imp (pe_and h h') fun σ H Q ⟨L, st, env, rs, re, p⟩ => ?_
  refine ⟨L, st, env, rs, re, (mBl_k (Pst.bind (m := mBl (m env)) p)).mono fun d st1 L1 H1 po1 rs1 ⟨b, eb, q⟩ v rv => ?_⟩
  subst eb
  cases rv
  refine ⟨b, rfl, ?_⟩
  cases b with
  | true => exact ⟨L1, st1, env, rs1, re.po po1 rs.lst, q⟩
  | false => exact q H1 L1 (Po.refl _ _) rs1 _ (.bl false)
theorem d_or {a b : Expr} {rest : List Expr} {m n : EM D} {pos} (h : PE X a (tM G E m)) (h' : PE X (.BoolOp .Or (b :: rest) pos) (tM G E n)) : PE X (.BoolOp .Or (a :: b :: rest) pos) (tM G E (eOr m n)) := by
  refine PE.imp (pe_or h h') fun σ H Q ⟨L, st, env, rs, re, p⟩ => ?_
  refine ⟨L, st, env, rs, re, (mBl_k (Pst.bind (m := mBl (m env)) p)).mono fun d st1 L1 H1 po1 rs1 ⟨b, eb, q⟩ v rv => ?_⟩
  subst eb
  cases rv
  refine ⟨b, rfl, ?_⟩
  cases b with
  | false => exact ⟨L1, st1, env, rs1, re.po po1 rs.lst, q⟩
  | true => exact q H1 L1 (Po.refl _ _) rs1 _ (.bl true)
/-- not a, as a value -/
def eNot (m : EM D) : EM D := fun env => mbind (mBl (m env)) fun b => mpure (.bl (!b))
theorem d_not {a : Expr} {m : EM D} {pos} (h : PE X a (tM G E m)) : PE X (.UnaryOp .Not a pos) (tM G E (eNot m)) := by
  refine PE.imp (pe_not h) fun σ H Q ⟨L, st, env, rs, re, p⟩ => ?_
  refine ⟨L, st, env, rs, re, (mBl_k (Pst.bind (m := mBl (m env)) p)).mono fun d st1 L1 H1 po1 rs1 ⟨b, eb, q⟩ v rv => ?_⟩
  subst eb
  cases rv
  exact ⟨b, rfl, q H1 L1 (Po.refl _ _) rs1 _ (.bl _)⟩
def eIf (c : EM Bool) (a b : EM D) : EM D := fun env => mbind (c env) fun k => if k then a env else b env
theorem d_ifExp {c a b : Expr} {mc : EM Bool} {ma mb : EM D} {pos} (hc : PT X c (tT G E mc)) (ha : PE X a (tM G E ma)) (hb : PE X b (tM G E mb)) : PE X (.IfExp c a b pos) (tM G E (eIf mc ma mb)) := by
  refine PE.imp (pe_ifExp hc ha hb) fun σ H Q ⟨L, st, env, rs, re, p⟩ => ?_
  refine ⟨L, st, env, rs, re, (Pst.bind (m := mc env) p).mono fun b st1 L1 H1 po1 rs1 q => ?_⟩
  cases b with
  | true => exact ⟨L1, st1, env, rs1, re.po po1 rs.lst, q⟩
  | false => exact ⟨L1, st1, env, rs1, re.po po1 rs.lst, q⟩
end Mir
/-! MirC: operators, built-ins, items, slices of the mirror. -/
namespace Mir
open PySem L2
variable {H H' H1 H2 : Hp} {L L' L1 L2 : List Addr} {st st' : Store} {X : Cx} {G : Gx} {E : XK}

/-- an end without a new object -/
theorem fits_same {Q : VK} {A : Prop} {o : O} (rs : Rs G H L st) (h : ∀ d st', o st = some (d, st') → st' = st ∧ ∃ v, Rp G H L v d ∧ (Q v H → A)) : Fits G L H st o Q A := fun d st' e q => by
  obtain ⟨e1, v, rv, f⟩ := h d st' e
  subst e1
  exact f (q v H L (Po.refl _ _) rs rv)

/-! ### whole numbers -/
def iBin (c : Int → Int → Bool) (f : Int → Int → D) (x y : D) : O := fun st => match x, y with
  | .int i, .int j => if c i j then some (f i j, st) else none
  | _, _ => none
theorem iBin_inv {c : Int → Int → Bool} {f : Int → Int → D} {x y d : D} (h : iBin c f x y st = some (d, st')) : ∃ i j, x = .int i ∧ y = .int j ∧ c i j = true ∧ d = f i j ∧ st' = st := by
  unfold iBin at h
  split at h
  · rename_i i j
    by_cases hc : c i j = true
    · rw [if_pos hc] at h; cases h; exact ⟨i, j, rfl, rfl, hc, rfl, rfl⟩
    · rw [if_neg hc] at h; cases h
  · cases h
theorem opM_int {f : Value → Value → Sem Value} {C : Int → Int → Prop} {g : Int → Int → V} {c : Int → Int → Bool} {gd : Int → Int → D} (h : OpR X f (rI C g)) (hc : ∀ i j, c i j = true → C i j) (hg : ∀ i j H L, Rp G H L (g i j) (gd i j)) : OpM X G f (iBin c gd) :=
  ⟨_, h, fun x y dx dy H L st Q rs rx ry => fits_same rs fun d st' e => by
    obtain ⟨i, j, rfl, rfl, hcc, rfl, rfl⟩ := iBin_inv e
    cases rx; cases ry
    exact ⟨rfl, _, hg i j H L, fun q => ⟨i, j, rfl, rfl, hc i j hcc, q⟩⟩⟩
def orO (g g' : D → D → O) : D → D → O := fun x y st => match g x y st with
  | some p => some p
  | none => g' x y st
theorem OpM.orM {f : Value → Value → Sem Value} {g g' : D → D → O} (h : OpM X G f g) (h' : OpM X G f g') : OpM X G f (orO g g') := by
  obtain ⟨r, hr, hf⟩ := h.ex
  obtain ⟨r', hr', hf'⟩ := h'.ex
  refine ⟨_, OpR.or hr hr', fun x y dx dy H L st Q rs rx ry d st' e q => ?_⟩
  have e : (match g dx dy st with | some p => some p | none => g' dx dy st) = some (d, st') := e
  cases q1 : g dx dy st with
  | some p => rw [q1] at e; exact .inl (hf x y dx dy H L st Q rs rx ry d st' (q1.trans e) q)
  | none => rw [q1] at e; exact .inr (hf' x y dx dy H L st Q rs rx ry d st' e q)
theorem rI_of0 {f : Value → Value → Sem Value} {g : Int → Int → V} (h : OpR X f (rI0 g)) : OpR X f (rI (fun _ _ => True) g) := fun pins s σ H x y v u Q I rx ry ⟨i, j, e1, e2, _, q⟩ => h pins s σ H x y v u Q I rx ry ⟨i, j, e1, e2, q⟩
abbrev cT : Int → Int → Bool := fun _ _ => true
abbrev iAdd := iBin cT fun i j => .int (i + j)
abbrev iSub := iBin cT fun i j => .int (i - j)
def cMul (i j : Int) : Bool := Nat.ble (Builtin.Int.intBits i + Builtin.Int.intBits j) 134217728
abbrev iMul := iBin cMul fun i j => .int (i * j)
def cDiv (_ j : Int) : Bool := decide (j ≠ 0) && decide (j.natAbs.log2 < 9000)
abbrev iDiv := iBin cDiv fun i j => .int (i.fdiv j)
abbrev iMod := iBin (fun _ j => decide (j ≠ 0)) fun i j => .int (i.fmod j)
def cPow (i j : Int) : Bool := decide (0 ≤ j) && Nat.ble (Builtin.Int.intBits i * j.toNat) 134217728
abbrev iPow := iBin cPow fun i j => .int (i ^ j.toNat)
theorem o_iadd : OpM X G (binaryOp .Add) iAdd := opM_int (rI_of0 op_add) (fun _ _ _ => trivial) fun _ _ _ _ => .int _
theorem o_sub : OpM X G (binaryOp .Sub) iSub := opM_int (rI_of0 op_sub) (fun _ _ _ => trivial) fun _ _ _ _ => .int _
theorem o_imul : OpM X G (binaryOp .Mult) iMul := opM_int op_mulX (fun i j h => (by unfold cMul at h; have := Nat.le_of_ble_eq_true h; omega : (Builtin.Int.intBits i : Int) + (Builtin.Int.intBits j : Int) ≤ 134217728)) fun _ _ _ _ => .int _
theorem op_fdivG : OpR X (binaryOp .FloorDiv) (rI (fun _ j => j ≠ 0 ∧ j.natAbs.log2 < 9000) fun i j => .int (i.fdiv j)) := opI fun i j _ _ _ _ _ hc q => PyProof.Rows.floordiv_int hc.1 q (.inl (PyProof.noPylong_of_log2 hc.2))
theorem o_div : OpM X G (binaryOp .FloorDiv) iDiv := opM_int op_fdivG (fun _ _ h => by
  unfold cDiv at h
  rw [Bool.and_eq_true] at h
  exact ⟨of_decide_eq_true h.1, of_decide_eq_true h.2⟩) fun _ _ _ _ => .int _
theorem o_mod : OpM X G (binaryOp .Mod) iMod := opM_int op_modN (fun _ _ h => of_decide_eq_true h) fun _ _ _ _ => .int _
theorem op_powW : OpR X (binaryOp .Pow) (rI (fun i j => 0 ≤ j ∧ (Builtin.Int.intBits i : Int) * j ≤ 2 ^ 27) fun i j => .int (i ^ j.toNat)) := opI fun _ _ _ _ _ _ _ hc q => PyProof.Rows.pow_int hc.1 hc.2 q
theorem o_pow : OpM X G (binaryOp .Pow) iPow := opM_int op_powW (fun i j h => by
  unfold cPow at h
  rw [Bool.and_eq_true] at h
  have h0 := of_decide_eq_true h.1
  have h1 := Nat.le_of_ble_eq_true h.2
  refine ⟨h0, ?_⟩
  have e : ((Builtin.Int.intBits i * j.toNat : Nat) : Int) = (Builtin.Int.intBits i : Int) * j := by
    rw [Int.natCast_mul, Int.toNat_of_nonneg h0]
  rw [← e]
  omega) fun _ _ _ _ => .int _
theorem o_lt : OpM X G (compareOp .Lt) (iBin cT fun i j => .bl (decide (i < j))) := opM_int (rI_of0 op_lt) (fun _ _ _ => trivial) fun _ _ _ _ => .bl _
theorem o_le : OpM X G (compareOp .LtE) (iBin cT fun i j => .bl (decide (i ≤ j))) := opM_int (rI_of0 op_le) (fun _ _ _ => trivial) fun _ _ _ _ => .bl _
theorem o_gt : OpM X G (compareOp .Gt) (iBin cT fun i j => .bl (decide (j < i))) := opM_int (rI_of0 op_gt) (fun _ _ _ => trivial) fun _ _ _ _ => .bl _
theorem o_ge : OpM X G (compareOp .GtE) (iBin cT fun i j => .bl (decide (j ≤ i))) := opM_int (rI_of0 op_ge) (fun _ _ _ => trivial) fun _ _ _ _ => .bl _
def iNeg (x : D) : O := fun st => match x with
  | .int i => some (.int (-i), st)
  | _ => none
theorem o_neg : UnM X G (unaryOp .USub) iNeg := ⟨_, un_neg, fun x dx H L st Q rs rx => fits_same rs fun d st' e => by
  unfold iNeg at e
  split at e
  · rename_i i
    cases e; cases rx
    exact ⟨rfl, _, .int _, fun q => ⟨i, rfl, q⟩⟩
  · cases e⟩

/-! ### + and * of sequences -/
def sAdd (x y : D) : O := fun st => match x, y with
  | .str a, .str b => if a.length + b.length ≤ 16777216 then some (.str (a ++ b), st) else none
  | _, _ => none
def tAddO (x y : D) : O := fun st => match x, y with
  | .tup a, .tup b => if a.length + b.length ≤ 16777216 then some (.tup (a ++ b), st) else none
  | _, _ => none
def lAdd (x y : D) : O := fun st => match x, y with
  | .loc n, .loc m => match st[n]?, st[m]? with
    | some a, some b => if a.length + b.length ≤ 16777216 then some (.loc st.length, st ++ [a ++ b]) else none
    | _, _ => none
  | _, _ => none
theorem o_sadd : OpM X G (binaryOp .Add) sAdd := ⟨_, op_add_str, fun x y dx dy H L st Q rs rx ry => fits_same rs fun d st' e => by
  unfold sAdd at e
  split at e
  · rename_i a b
    by_cases hl : a.length + b.length ≤ 16777216
    · rw [if_pos hl] at e; cases e; cases rx; cases ry
      exact ⟨rfl, _, .str _, fun q => ⟨a, b, rfl, rfl, by rw [sizeLine_eq]; exact hl, q⟩⟩
    · rw [if_neg hl] at e; cases e
  · cases e⟩
theorem tup_inv {v : V} {ds : List D} (h : Rp G H L v (.tup ds)) : ∃ a xs, v = .ref a ∧ SqT G.K H a xs ∧ RpAll G H L xs ds := by
  cases h with | tup h1 h2 => exact ⟨_, _, rfl, h1, h2⟩
theorem loc_inv {v : V} {n : Nat} (h : Rp G H L v (.loc n)) : ∃ a, v = .ref a ∧ L[n]? = some a := by
  cases h with | loc h1 => exact ⟨_, rfl, h1⟩
theorem o_tadd (hK : X.K = G.K) : OpM X G (binaryOp .Add) tAddO := ⟨_, op_catA, fun x y dx dy H L st Q rs rx ry d st' e q => by
  unfold tAddO at e
  split at e
  · rename_i a b
    by_cases hl : a.length + b.length ≤ 16777216
    · rw [if_pos hl] at e; cases e
      obtain ⟨p, xs, rfl, hx, rxs⟩ := tup_inv rx
      obtain ⟨p', ys, rfl, hy, rys⟩ := tup_inv ry
      refine ⟨p, p', xs, ys, rfl, rfl, by rw [hK]; exact hx, by rw [hK]; exact hy, by rw [sizeLine_eq, rxs.length, rys.length]; exact hl, fun e1 => ?_, fun e1 e2 => ?_, fun _ _ r hr => ?_⟩
      · subst e1; cases rxs
        exact q _ H L (Po.refl _ _) rs (.tup hy rys)
      · subst e2; cases rys
        rw [List.append_nil] at q
        exact q _ H L (Po.refl _ _) rs (.tup hx rxs)
      · obtain ⟨po, rs2, rp⟩ := new_tup rs hr (rxs.app rys)
        exact q _ _ _ po rs2 rp
    · rw [if_neg hl] at e; cases e
  · cases e⟩
theorem o_ladd : OpM X G (binaryOp .Add) lAdd := ⟨_, op_cat, fun x y dx dy H L st Q rs rx ry d st' e q => by
  unfold lAdd at e
  split at e
  · rename_i n m
    split at e
    · rename_i a b ea eb
      by_cases hl : a.length + b.length ≤ 16777216
      · rw [if_pos hl] at e; cases e
        obtain ⟨p, rfl, hp⟩ := loc_inv rx
        obtain ⟨p', rfl, hp'⟩ := loc_inv ry
        obtain ⟨xs, hx, rxs⟩ := rs.get hp ea
        obtain ⟨ys, hy, rys⟩ := rs.get hp' eb
        refine ⟨p, p', xs, ys, rfl, rfl, hx, hy, by rw [sizeLine_eq, rxs.length, rys.length]; exact hl, fun r hr => ?_⟩
        obtain ⟨po, rs2, rp⟩ := new_lst rs hr (rxs.app rys)
        exact q _ _ _ po rs2 rp
      · rw [if_neg hl] at e; cases e
    · cases e
  · cases e⟩
def gAdd (x y : D) : O := fun st => match x with
  | .int _ => iAdd x y st
  | .str _ => sAdd x y st
  | .tup _ => tAddO x y st
  | .loc _ => lAdd x y st
  | _ => none
theorem OpM.imp {f : Value → Value → Sem Value} {g g' : D → D → O} (h : OpM X G f g) (i : ∀ x y st p, g' x y st = some p → g x y st = some p) : OpM X G f g' := by
  obtain ⟨r, hr, hf⟩ := h.ex
  exact ⟨r, hr, fun x y dx dy H L st Q rs rx ry d st' e q => hf x y dx dy H L st Q rs rx ry d st' (i _ _ _ _ e) q⟩
theorem pick {g g' : D → D → O} {x y : D} {p : D × Store} (h : g x y st = some p) : orO g g' x y st = some p := by unfold orO; rw [h]
theorem skip1 {g g' : D → D → O} {x y : D} {p : D × Store} (h0 : g x y st = none) (h : g' x y st = some p) : orO g g' x y st = some p := by unfold orO; rw [h0]; exact h
theorem o_add (hK : X.K = G.K) : OpM X G (binaryOp .Add) gAdd := OpM.imp (o_iadd.orM (o_sadd.orM ((o_tadd hK).orM o_ladd))) fun x y st p e => by
  cases x with
  | int i => exact pick (g := iAdd) e
  | str s => exact skip1 (g := iAdd) rfl (pick (g := sAdd) e)
  | tup ds => exact skip1 (g := iAdd) rfl (skip1 (g := sAdd) rfl (pick (g := tAddO) e))
  | loc n => exact skip1 (g := iAdd) rfl (skip1 (g := sAdd) rfl (skip1 (g := tAddO) rfl e))
  | _ => cases e
/-- a tuple times an int, a list times an int -/
def tRep (x y : D) : O := fun st => match x, y with
  | .tup a, .int k => if !a.isEmpty && decide (2 ≤ k) && decide (k ≤ 1000) && decide (a.length ≤ 1000) then some (.tup (List.replicate k.toNat a).flatten, st) else none
  | _, _ => none
def lRep (x y : D) : O := fun st => match x, y with
  | .loc n, .int k => match st[n]? with
    | some a => if decide (-(2 ^ 63) ≤ k) && decide (k < 2 ^ 63) && decide (a.length * k.toNat ≤ 16777216) then some (.loc st.length, st ++ [(List.replicate k.toNat a).flatten]) else none
    | none => none
  | _, _ => none
theorem RpAll.rep {xs : List V} {ds : List D} (h : RpAll G H L xs ds) : ∀ k : Nat, RpAll G H L (List.replicate k xs).flatten (List.replicate k ds).flatten
  | 0 => .nil
  | k + 1 => by
    rw [List.replicate_succ, List.flatten_cons, List.replicate_succ, List.flatten_cons]
    exact h.app (RpAll.rep h k)
theorem o_trep (hK : X.K = G.K) : OpM X G (binaryOp .Mult) tRep := ⟨_, op_repT, fun x y dx dy H L st Q rs rx ry d st' e q => by
  unfold tRep at e
  split at e
  · rename_i a k
    by_cases hc : (!a.isEmpty && decide (2 ≤ k) && decide (k ≤ 1000) && decide (a.length ≤ 1000)) = true
    · rw [if_pos hc] at e; cases e
      simp only [Bool.and_eq_true, Bool.not_eq_true', decide_eq_true_eq] at hc
      obtain ⟨⟨⟨h1, h2⟩, h3⟩, h4⟩ := hc
      obtain ⟨p, xs, rfl, hx, rxs⟩ := tup_inv rx
      cases ry
      refine ⟨p, k, xs, rfl, rfl, by rw [hK]; exact hx, fun z => ?_, h2, h3, by rw [rxs.length]; exact h4, fun r hr => ?_⟩
      · subst z; cases rxs; simp at h1
      · obtain ⟨po, rs2, rp⟩ := new_tup rs hr (rxs.rep k.toNat)
        exact q _ _ _ po rs2 rp
    · rw [if_neg hc] at e; cases e
  · cases e⟩
theorem o_lrep : OpM X G (binaryOp .Mult) lRep := ⟨_, op_rep, fun x y dx dy H L st Q rs rx ry d st' e q => by
  unfold lRep at e
  split at e
  · rename_i n k
    split at e
    · rename_i a ea
      by_cases hc : (decide (-(2 ^ 63) ≤ k) && decide (k < 2 ^ 63) && decide (a.length * k.toNat ≤ 16777216)) = true
      · rw [if_pos hc] at e; cases e
        simp only [Bool.and_eq_true, decide_eq_true_eq] at hc
        obtain ⟨⟨h1, h2⟩, h3⟩ := hc
        obtain ⟨p, rfl, hp⟩ := loc_inv rx
        cases ry
        obtain ⟨xs, hx, rxs⟩ := rs.get hp ea
        refine ⟨p, k, xs, rfl, rfl, hx, h1, h2, by rw [sizeLine_eq, rxs.length]; exact h3, fun r hr => ?_⟩
        obtain ⟨po, rs2, rp⟩ := new_lst rs hr (rxs.rep k.toNat)
        exact q _ _ _ po rs2 rp
      · rw [if_neg hc] at e; cases e
    · cases e
  · cases e⟩
def gMul (x y : D) : O := fun st => match x with
  | .int _ => iMul x y st
  | .tup _ => tRep x y st
  | .loc _ => lRep x y st
  | _ => none
theorem o_mul (hK : X.K = G.K) : OpM X G (binaryOp .Mult) gMul := OpM.imp (o_imul.orM ((o_trep hK).orM o_lrep)) fun x y st p e => by
  cases x with
  | int i => exact pick (g := iMul) e
  | tup ds => exact skip1 (g := iMul) rfl (pick (g := tRep) e)
  | loc n => exact skip1 (g := iMul) rfl (skip1 (g := tRep) rfl e)
  | _ => cases e

/-! ### == of data -/
def allPy (f : D → Option PyData) : List D → Option (List PyData)
  | [] => some []
  | d :: ds => match f d, allPy f ds with
    | some x, some xs => some (x :: xs)
    | _, _ => none
def toPy (st : Store) : Nat → D → Option PyData
  | 0 => fun _ => none
  | k + 1 => fun d => match d with
    | .non => some .none
    | .bl b => some (.bool b)
    | .int i => some (.int i)
    | .str s => if (s.cps.all fun c => decide (c < 0x110000)) = true then some (.str s) else none
    | .tup ds => match allPy (toPy st k) ds with
      | some xs => some (.tuple xs)
      | none => none
    | .loc n => match st[n]? with
      | some ds => match allPy (toPy st k) ds with
        | some xs => some (.list xs)
        | none => none
      | none => none
    | _ => none
theorem allPy_spec {K : W.Frag} {f : D → Option PyData} {P : V → PyData → Prop} {ds : List D} {vs : List V} {xs : List PyData} (h : RpAll G H L vs ds) (hf : ∀ v d x, Rp G H L v d → f d = some x → P v x) (e : allPy f ds = some xs) :
    ∃ _ : vs.length = xs.length, ∀ (i : Nat) (v : V) (x : PyData), vs[i]? = some v → xs[i]? = some x → P v x := by
  induction vs generalizing ds xs with
  | nil =>
    cases h
    cases e
    exact ⟨rfl, fun i v x h => by simp at h⟩
  | cons v vs ih =>
    cases h with
    | @cons _ d _ ds h1 h2 =>
      unfold allPy at e
      split at e
      · rename_i y ys ey eys
        cases e
        obtain ⟨hl, hi⟩ := ih h2 eys
        refine ⟨by simp [hl], fun i w x hw hx => ?_⟩
        cases i with
        | zero => simp at hw hx; subst hw; subst hx; exact hf _ _ _ h1 ey
        | succ i => exact hi i w x (by simpa using hw) (by simpa using hx)
      · cases e
theorem dpAll_of {K : W.Frag} : ∀ {vs : List V} {xs : List PyData}, vs.length = xs.length → (∀ (i : Nat) v x, vs[i]? = some v → xs[i]? = some x → Dp K H v x) → DpAll K H vs xs
  | [], [], _, _ => .nil
  | v :: vs, x :: xs, hl, h => .cons (h 0 v x rfl rfl) (dpAll_of (by simpa using hl) fun i w y hw hy => h (i + 1) w y (by simpa using hw) (by simpa using hy))
theorem depthAll_le {n : Nat} : ∀ {xs : List PyData}, (∀ (i : Nat) x, xs[i]? = some x → x.depth ≤ n) → PyData.depthAll xs ≤ n
  | [], _ => by simp [PyData.depthAll]
  | x :: xs, h => by
    have h1 := h 0 x rfl
    have h2 := depthAll_le (xs := xs) fun i y hy => h (i + 1) y (by simpa using hy)
    simp only [PyData.depthAll]
    omega
theorem canAll_of : ∀ {xs : List PyData}, (∀ (i : Nat) x, xs[i]? = some x → x.canLay0 = true) → PyData.canLayAll0 xs = true
  | [], _ => by simp [PyData.canLayAll0]
  | x :: xs, h => by
    have h1 := h 0 x rfl
    have h2 := canAll_of (xs := xs) fun i y hy => h (i + 1) y (by simpa using hy)
    simp only [PyData.canLayAll0, h1, h2, Bool.and_self]
theorem toPy_spec (rs : Rs G H L st) : ∀ {k : Nat} {d : D} {v : V} {x : PyData}, Rp G H L v d → toPy st k d = some x → Dp G.K H v x ∧ x.canLay0 = true ∧ x.depth ≤ k
  | 0, _, _, _, _, e => by cases e
  | k + 1, d, v, x, r, e => by
    cases r with
    | non => cases e; exact ⟨.non, rfl, by simp [PyData.depth]⟩
    | bl b => cases e; exact ⟨.bl b, rfl, by simp [PyData.depth]⟩
    | int i => cases e; exact ⟨.int i, rfl, by simp [PyData.depth]⟩
    | str s =>
      simp only [toPy] at e
      split at e
      · rename_i hs
        cases e
        exact ⟨.str s, by simp only [PyData.canLay0]; exact hs, by simp [PyData.depth]⟩
      · cases e
    | @tup a ys ds h1 h2 =>
      simp only [toPy] at e
      split at e
      · rename_i xs exs
        cases e
        obtain ⟨hl, hi⟩ := allPy_spec (K := G.K) (P := fun v x => Dp G.K H v x ∧ x.canLay0 = true ∧ x.depth ≤ k) h2 (fun v d x rv ex => toPy_spec rs rv ex) exs
        have get : ∀ (i : Nat) x, xs[i]? = some x → ∃ v, ys[i]? = some v := fun i x hx => by
          have := (List.getElem?_eq_some_iff.mp hx).1
          exact ⟨_, List.getElem?_eq_getElem (by omega)⟩
        refine ⟨.tup h1 (dpAll_of hl fun i v x hv hx => (hi i v x hv hx).1), ?_, ?_⟩
        · simp only [PyData.canLay0]
          exact canAll_of fun i x hx => by obtain ⟨v, hv⟩ := get i x hx; exact (hi i v x hv hx).2.1
        · simp only [PyData.depth]
          have := depthAll_le (n := k) (xs := xs) fun i x hx => by obtain ⟨v, hv⟩ := get i x hx; exact (hi i v x hv hx).2.2
          omega
      · cases e
    | @loc a n h1 =>
      simp only [toPy] at e
      split at e
      · rename_i ds eds
        split at e
        · rename_i xs exs
          cases e
          obtain ⟨ys, hy, h2⟩ := rs.get h1 eds
          obtain ⟨hl, hi⟩ := allPy_spec (K := G.K) (P := fun v x => Dp G.K H v x ∧ x.canLay0 = true ∧ x.depth ≤ k) h2 (fun v d x rv ex => toPy_spec rs rv ex) exs
          have get : ∀ (i : Nat) x, xs[i]? = some x → ∃ v, ys[i]? = some v := fun i x hx => by
            have := (List.getElem?_eq_some_iff.mp hx).1
            exact ⟨_, List.getElem?_eq_getElem (by omega)⟩
          refine ⟨.lst (SqL.of hy) (dpAll_of hl fun i v x hv hx => (hi i v x hv hx).1), ?_, ?_⟩
          · simp only [PyData.canLay0]
            exact canAll_of fun i x hx => by obtain ⟨v, hv⟩ := get i x hx; exact (hi i v x hv hx).2.1
          · simp only [PyData.depth]
            have := depthAll_le (n := k) (xs := xs) fun i x hx => by obtain ⟨v, hv⟩ := get i x hx; exact (hi i v x hv hx).2.2
            omega
        · cases e
      · cases e
    | ty j => cases e
    | fn j => cases e
    | scr => cases e
    | exn c => cases e
    | raw w => cases e
def gEqB (neg : Bool) (x y : D) : O := fun st => match toPy st 40 x, toPy st 40 y with
  | some a, some b => some (.bl (if neg then !(a.eqv b) else a.eqv b), st)
  | _, _ => none
theorem o_eqB {neg : Bool} {f : Value → Value → Sem Value} {r : R2} (h : OpR X f r) (hr : ∀ x y H Q d e, Dp G.K H x d → Dp G.K H y e → SeqAt.shaped d = true → SeqAt.shaped e = true → Q (.bl (if neg then !(d.eqv e) else d.eqv e)) H → r x y H Q) : OpM X G f (gEqB neg) :=
  ⟨_, h, fun x y dx dy H L st Q rs rx ry => fits_same rs fun d st' e => by
    unfold gEqB at e
    split at e
    · rename_i a b ea eb
      cases e
      obtain ⟨d1, c1, p1⟩ := toPy_spec rs rx ea
      obtain ⟨d2, c2, p2⟩ := toPy_spec rs ry eb
      have sh : ∀ z : PyData, z.canLay0 = true → z.depth ≤ 40 → SeqAt.shaped z = true := fun z hc hd => by
        unfold SeqAt.shaped
        rw [hc, decide_eq_true (by omega)]
        rfl
      exact ⟨rfl, _, .bl _, fun q => hr x y H Q a b d1 d2 (sh _ c1 p1) (sh _ c2 p2) q⟩
    · cases e⟩
abbrev gEq := gEqB false
abbrev gNe := gEqB true
theorem o_eq (hK : X.K = G.K) (hu : X.A.units + 64 < cLine) : OpM X G (compareOp .Eq) gEq := o_eqB (op_eqD hu) fun x y H Q d e h1 h2 h3 h4 q => ⟨d, e, by rw [hK]; exact h1, by rw [hK]; exact h2, h3, h4, q⟩
theorem o_ne (hK : X.K = G.K) (hu : X.A.units + 64 < cLine) : OpM X G (compareOp .NotEq) gNe := o_eqB (op_neD hu) fun x y H Q d e h1 h2 h3 h4 q => ⟨d, e, by rw [hK]; exact h1, by rw [hK]; exact h2, h3, h4, q⟩
/-- is None, is not None -/
def isNon : D → Option Bool
  | .non => some true
  | .raw _ => none
  | _ => some false
def gIsN (neg : Bool) (x y : D) : O := fun st => match y, isNon x with
  | .non, some b => some (.bl (if neg then !b else b), st)
  | _, _ => none
theorem isNon_spec {v : V} {d : D} {b : Bool} (r : Rp G H L v d) (e : isNon d = some b) : decide (v = .non) = b := by
  cases r <;> cases e <;> simp
theorem o_isN : OpM X G (compareOp .Is) (gIsN false) := ⟨_, op_isN, fun x y dx dy H L st Q rs rx ry => fits_same rs fun d st' e => by
  unfold gIsN at e
  split at e
  · rename_i b eb
    cases e; cases ry
    exact ⟨rfl, _, .bl _, fun q => ⟨rfl, by rw [isNon_spec rx eb]; exact q⟩⟩
  · cases e⟩
theorem o_notN : OpM X G (compareOp .IsNot) (gIsN true) := ⟨_, op_notN, fun x y dx dy H L st Q rs rx ry => fits_same rs fun d st' e => by
  unfold gIsN at e
  split at e
  · rename_i b eb
    cases e; cases ry
    exact ⟨rfl, _, .bl _, fun q => ⟨rfl, by rw [isNon_spec rx eb]; exact q⟩⟩
  · cases e⟩
/-- x in a list or tuple of flat things -/
def eqF : D → D → Option Bool
  | .non, .non => some true
  | .bl a, .bl b => some (a == b)
  | .bl a, .int b => some ((if a then 1 else 0) == b)
  | .int a, .bl b => some (a == (if b then 1 else 0))
  | .int a, .int b => some (a == b)
  | .str a, .str b => some (a == b)
  | .non, .bl _ | .non, .int _ | .non, .str _ => some false
  | .bl _, .non | .bl _, .str _ | .int _, .non | .int _, .str _ => some false
  | .str _, .non | .str _, .bl _ | .str _, .int _ => some false
  | _, _ => none
def inF (x : D) : List D → Option Bool
  | [] => match x with
    | .non | .bl _ | .int _ | .str _ => some false
    | _ => none
  | d :: ds => match eqF d x, inF x ds with
    | some a, some b => some (a || b)
    | _, _ => none
theorem eqF_spec {v w : V} {d e : D} {b : Bool} (r : Rp G H L v d) (r' : Rp G H L w e) (h : eqF d e = some b) : eqV v w = b ∧ flatV v = true ∧ flatV w = true := by
  cases r <;> cases r' <;> cases h <;> exact ⟨rfl, rfl, rfl⟩
theorem inF_spec {w : V} {x : D} {vs : List V} {ds : List D} {b : Bool} (r' : Rp G H L w x) (r : RpAll G H L vs ds) (h : inF x ds = some b) : inV w vs = b ∧ vs.all flatV = true ∧ flatV w = true := by
  induction vs generalizing ds b with
  | nil =>
    cases r
    cases r' <;> cases h <;> exact ⟨rfl, rfl, rfl⟩
  | cons v vs ih =>
    cases r with
    | cons h1 h2 =>
      unfold inF at h
      split at h
      · rename_i a c ea ec
        cases h
        obtain ⟨e1, e2, e3⟩ := eqF_spec h1 r' ea
        obtain ⟨e4, e5, e6⟩ := ih h2 ec
        refine ⟨?_, by simp [e2, e5], e3⟩
        unfold inV at e4 ⊢
        rw [List.any_cons, e1, e4]
      · cases h
def gIn (neg : Bool) (x y : D) : O := fun st => match y with
  | .tup ds => match inF x ds with
    | some b => some (.bl (if neg then !b else b), st)
    | none => none
  | .loc n => match st[n]? with
    | some ds => match inF x ds with
      | some b => some (.bl (if neg then !b else b), st)
      | none => none
    | none => none
  | _ => none
theorem o_inB {neg : Bool} {f : Value → Value → Sem Value} (hK : X.K = G.K) (h : OpR X f (rIn X.K neg)) : OpM X G f (gIn neg) := ⟨_, h, fun x y dx dy H L st Q rs rx ry => fits_same rs fun d st' e => by
  unfold gIn at e
  split at e
  · rename_i ds
    split at e
    · rename_i b eb
      cases e
      obtain ⟨a, xs, rfl, hx, rxs⟩ := tup_inv ry
      obtain ⟨e1, e2, e3⟩ := inF_spec rx rxs eb
      exact ⟨rfl, _, .bl _, fun q => ⟨a, xs, rfl, .inr (by rw [hK]; exact hx), e3, e2, by rw [e1]; exact q⟩⟩
    · cases e
  · rename_i n
    split at e
    · rename_i ds eds
      split at e
      · rename_i b eb
        cases e
        obtain ⟨a, rfl, ha⟩ := loc_inv ry
        obtain ⟨xs, hx, rxs⟩ := rs.get ha eds
        obtain ⟨e1, e2, e3⟩ := inF_spec rx rxs eb
        exact ⟨rfl, _, .bl _, fun q => ⟨a, xs, rfl, .inl (SqL.of hx), e3, e2, by rw [e1]; exact q⟩⟩
      · cases e
    · cases e
  · cases e⟩
theorem o_in (hK : X.K = G.K) : OpM X G (compareOp .In) (gIn false) := o_inB hK op_in_seq
theorem o_notIn (hK : X.K = G.K) : OpM X G (compareOp .NotIn) (gIn true) := o_inB hK op_notIn_seq

/-! ### items and slices -/
def gIx (x y : D) : O := fun st => match x, y with
  | .tup ds, .int i => match atI ds i with
    | some d => some (d, st)
    | none => none
  | .loc n, .int i => match st[n]? with
    | some ds => match atI ds i with
      | some d => some (d, st)
      | none => none
    | none => none
  | _, _ => none
theorem atI_rp {vs : List V} {ds : List D} (r : RpAll G H L vs ds) {i : Int} {d : D} (e : atI ds i = some d) : ∃ v, atI vs i = some v ∧ Rp G H L v d := by
  unfold atI at e ⊢
  rw [r.length]
  cases q : ixN ds.length i with
  | none => rw [q] at e; cases e
  | some j => rw [q] at e; exact r.get e
theorem d_ix {a b : Expr} {ma mb : EM D} {pos} (hK : X.K = G.K) (ha : PE X a (tM G E ma)) (hb : PE X b (tM G E mb)) (hs : PlainIx b) : PE X (.Subscript a b pos) (tM G E (eBin gIx ma mb)) := by
  refine PE.imp (pe_ix ix_seq ha hb hs) fun σ H Q ⟨L, st, env, rs, re, p⟩ => two (fun x y dx dy H L st Q rs rx ry => fits_same rs fun d st' e => ?_) rs re p fun d st' L' H' _ _ q => q
  unfold gIx at e
  split at e
  · rename_i ds i
    split at e
    · rename_i w ew
      cases e
      obtain ⟨a, xs, rfl, hx, rxs⟩ := tup_inv rx
      cases ry
      obtain ⟨v, ev, rv⟩ := atI_rp rxs ew
      exact ⟨rfl, v, rv, fun q => .inr (.inl ⟨a, xs, i, v, rfl, rfl, by rw [hK]; exact hx, ev, q⟩)⟩
    · cases e
  · rename_i n i
    split at e
    · rename_i ds eds
      split at e
      · rename_i w ew
        cases e
        obtain ⟨a, rfl, ha⟩ := loc_inv rx
        cases ry
        obtain ⟨xs, hx, rxs⟩ := rs.get ha eds
        obtain ⟨v, ev, rv⟩ := atI_rp rxs ew
        exact ⟨rfl, v, rv, fun q => .inl ⟨a, xs, i, v, rfl, rfl, SqL.of hx, ev, q⟩⟩
      · cases e
    · cases e
  · cases e
abbrev EP := EM (Option Int)
def pNone : EP := fun _ st => .ok none st
def pSome (m : EM D) : EP := fun env => mbind (m env) fun d => match d with
  | .int i => mpure (some i)
  | _ => mbad
def tO (G : Gx) (E : XK) (m : EP) : TO := fun σ H Q => ∃ L st env, Rs G H L st ∧ RpEnv G H L σ env ∧ Pst G E L H (m env st) fun o _ _ H' => Q o H'
theorem PO.imp {e : Option Expr} {t t' : TO} (h : PO X e t) (i : ∀ σ H Q, t' σ H Q → t σ H Q) : PO X e t' := ⟨fun pins s σ H Q I q => h.run pins s σ H Q I (i σ H Q q)⟩
theorem dp_none : PO X none (tO G E pNone) := PO.imp po_none fun σ H Q ⟨L, st, env, rs, re, p⟩ => p H L (Po.refl _ _) rs
theorem dp_some {e : Expr} {m : EM D} (h : PE X e (tM G E m)) : PO X (some e) (tO G E (pSome m)) := PO.imp (po_some h) fun σ H Q ⟨L, st, env, rs, re, p⟩ => by
  refine ⟨L, st, env, rs, re, (Pst.bind (m := m env) p).mono fun d st1 L1 H1 po1 rs1 q v rv => ?_⟩
  cases d with
  | int i => cases rv; exact ⟨i, rfl, q H1 L1 (Po.refl _ _) rs1⟩
  | _ => exact q.elim
def cutD (ds : List D) (lo hi : Option Int) : List D := (ds.drop (HT.sIx ds.length 0 lo)).take (HT.sIx ds.length ds.length hi - HT.sIx ds.length 0 lo)
theorem cut_rp {vs : List V} {ds : List D} (r : RpAll G H L vs ds) (lo hi : Option Int) : RpAll G H L (cutV vs lo hi) (cutD ds lo hi) := by
  unfold cutV cutD
  rw [r.length]
  exact (r.drop _).take _
def gSl (x : D) (lo hi : Option Int) : O := fun st => match x with
  | .tup ds => some (.tup (cutD ds lo hi), st)
  | .loc n => match st[n]? with
    | some ds => some (.loc st.length, st ++ [cutD ds lo hi])
    | none => none
  | .str s => if s.length ≤ 16777216 then some (.str (cutS s lo hi), st) else none
  | _ => none
def eSl (m : EM D) (lo hi : EP) : EM D := fun env => mbind (m env) fun d => mbind (lo env) fun l => mbind (hi env) fun h => lift (gSl d l h)
theorem cutD_all {ds : List D} {lo hi : Option Int} (h1 : HT.sIx ds.length 0 lo = 0) (h2 : HT.sIx ds.length ds.length hi = ds.length) : cutD ds lo hi = ds := by
  unfold cutD
  rw [h1, h2]
  simp
theorem d_slice {e : Expr} {lo hi : Option Expr} {m : EM D} {ml mh : EP} {p2 pos} (hK : X.K = G.K) (he : PE X e (tM G E m)) (hl : PO X lo (tO G E ml)) (hh : PO X hi (tO G E mh)) : PE X (.Subscript e (.Slice lo hi none p2) pos) (tM G E (eSl m ml mh)) := by
  refine PE.imp (pe_slice (SlR.or sl_list (SlR.or sl_tupA sl_str)) he hl hh) fun σ H Q ⟨L, st, env, rs, re, p⟩ => ?_
  refine ⟨L, st, env, rs, re, (Pst.bind (m := m env) p).mono fun d st1 L1 H1 po1 rs1 q v rv => ?_⟩
  have re1 := re.po po1 rs.lst
  refine ⟨L1, st1, env, rs1, re1, (Pst.bind (m := ml env) q).mono fun l st2 L2 H2 po2 rs2 q2 => ?_⟩
  have re2 := re1.po po2 rs1.lst
  refine ⟨L2, st2, env, rs2, re2, (Pst.bind (m := mh env) q2).mono fun u st3 L3 H3 po3 rs3 q3 => ?_⟩
  have rv3 := (rv.po po2 rs1.lst).po po3 rs2.lst
  obtain ⟨w, st4, e4, q4⟩ := lift_k (α := Unit) q3
  unfold gSl at e4
  split at e4
  · rename_i ds
    cases e4
    obtain ⟨a, xs, rfl, hx, rxs⟩ := tup_inv rv3
    refine .inr (.inl ⟨a, xs, rfl, by rw [hK]; exact hx, fun ⟨h1, h2⟩ => ?_, fun _ r hr => ?_⟩)
    · rw [rxs.length] at h1 h2
      rw [cutD_all h1 h2] at q4
      exact q4 H3 L3 (Po.refl _ _) rs3 _ (.tup hx rxs)
    · obtain ⟨po, rs5, rp⟩ := new_tup rs3 hr (cut_rp rxs l u)
      exact q4 _ _ po rs5 _ rp
  · rename_i n
    split at e4
    · rename_i ds eds
      cases e4
      obtain ⟨a, rfl, ha⟩ := loc_inv rv3
      obtain ⟨xs, hx, rxs⟩ := rs3.get ha eds
      refine .inl ⟨a, xs, rfl, SqL.of hx, fun r hr => ?_⟩
      obtain ⟨po, rs5, rp⟩ := new_lst rs3 hr (cut_rp rxs l u)
      exact q4 _ _ po rs5 _ rp
    · cases e4
  · rename_i s
    by_cases hl : s.length ≤ 16777216
    · rw [if_pos hl] at e4
      cases e4
      cases rv3
      exact .inr (.inr ⟨s, rfl, by rw [sizeLine_eq]; exact hl, q4 H3 L3 (Po.refl _ _) rs3 _ (.str _)⟩)
    · rw [if_neg hl] at e4; cases e4
  · cases e4

/-! ### built-ins -/
def f1 (g : D → O) (ds : List D) : O := match ds with
  | [x] => g x
  | _ => fun _ => none
theorem callM1 {f : Value} {r : List V → Hp → VK → Prop} {g : D → O} (h : CallR X f r) (hg : ∀ x dx H L st Q, Rs G H L st → Rp G H L x dx → Fits G L H st (g dx) Q (r [x] H Q)) : CallM X G f (f1 g) := ⟨r, h, fun xs ds H L st Q rs rx d st' e q => by
  unfold f1 at e
  split at e
  · rename_i dx
    cases rx with
    | cons h1 h2 => cases h2; exact hg _ dx H L st Q rs h1 d st' e q
  · cases e⟩
def gLen (x : D) : O := fun st => match x with
  | .tup ds => some (.int ds.length, st)
  | .loc n => match st[n]? with
    | some ds => some (.int ds.length, st)
    | none => none
  | .str s => if s.length ≤ 16777216 then some (.int s.length, st) else none
  | _ => none
theorem CallR.or {f : Value} {r r' : List V → Hp → VK → Prop} (h : CallR X f r) (h' : CallR X f r') : CallR X f (fun xs H Q => r xs H Q ∨ r' xs H Q) := by
  intro pins s σ H xs us Q I rx q
  rcases q with q | q
  · exact h pins s σ H xs us Q I rx q
  · exact h' pins s σ H xs us Q I rx q
theorem c_len (hK : X.K = G.K) : CallM X G (.builtin "len") (f1 gLen) := callM1 (CallR.or call_len_seq call_len_str) fun x dx H L st Q rs rx => fits_same rs fun d st' e => by
  unfold gLen at e
  split at e
  · rename_i ds
    cases e
    obtain ⟨a, xs, rfl, hx, rxs⟩ := tup_inv rx
    exact ⟨rfl, _, .int _, fun q => .inl ⟨a, xs, rfl, .inr (by rw [hK]; exact hx), by rw [rxs.length]; exact q⟩⟩
  · rename_i n
    split at e
    · rename_i ds eds
      cases e
      obtain ⟨a, rfl, ha⟩ := loc_inv rx
      obtain ⟨xs, hx, rxs⟩ := rs.get ha eds
      exact ⟨rfl, _, .int _, fun q => .inl ⟨a, xs, rfl, .inl (SqL.of hx), by rw [rxs.length]; exact q⟩⟩
    · cases e
  · rename_i s
    by_cases hl : s.length ≤ 16777216
    · rw [if_pos hl] at e; cases e; cases rx
      exact ⟨rfl, _, .int _, fun q => .inr ⟨s, rfl, by rw [sizeLine_eq]; exact hl, q⟩⟩
    · rw [if_neg hl] at e; cases e
  · cases e
def gAbs (x : D) : O := fun st => match x with
  | .int i => some (.int (if i < 0 then -i else i), st)
  | _ => none
theorem c_abs : CallM X G (.builtin "abs") (f1 gAbs) := callM1 call_abs fun x dx H L st Q rs rx => fits_same rs fun d st' e => by
  unfold gAbs at e
  split at e
  · rename_i i
    cases e; cases rx
    exact ⟨rfl, _, .int _, fun q => ⟨i, rfl, q⟩⟩
  · cases e
def gInt (x : D) : O := fun st => match x with
  | .int i => some (.int i, st)
  | .bl b => some (.int (if b then 1 else 0), st)
  | _ => none
theorem c_int : CallM X G (.type "int") (f1 gInt) := callM1 call_int1 fun x dx H L st Q rs rx => fits_same rs fun d st' e => by
  unfold gInt at e
  split at e
  · rename_i i
    cases e; cases rx
    exact ⟨rfl, _, .int _, fun q => .inl ⟨i, rfl, q⟩⟩
  · rename_i b
    cases e; cases rx
    exact ⟨rfl, _, .int _, fun q => .inr ⟨b, rfl, q⟩⟩
  · cases e
def gTuple (x : D) : O := fun st => match x with
  | .tup ds => some (.tup ds, st)
  | .loc n => match st[n]? with
    | some ds => some (.tup ds, st)
    | none => none
  | _ => none
theorem c_tuple (hK : X.K = G.K) : CallM X G (.type "tuple") (f1 gTuple) := callM1 call_tuple_of fun x dx H L st Q rs rx d st' e q => by
  unfold gTuple at e
  split at e
  · rename_i ds
    cases e
    obtain ⟨a, xs, rfl, hx, rxs⟩ := tup_inv rx
    exact ⟨a, xs, rfl, .inr ⟨by rw [hK]; exact hx, q _ H L (Po.refl _ _) rs (.tup hx rxs)⟩⟩
  · rename_i n
    split at e
    · rename_i ds eds
      cases e
      obtain ⟨a, rfl, ha⟩ := loc_inv rx
      obtain ⟨xs, hx, rxs⟩ := rs.get ha eds
      refine ⟨a, xs, rfl, .inl ⟨SqL.of hx, fun r hr => ?_⟩⟩
      obtain ⟨po, rs2, rp⟩ := new_tup rs hr rxs
      exact q _ _ _ po rs2 rp
    · cases e
  · cases e
def gList (sn : List Int) (x : D) : O := fun st => match x with
  | .scr => some (.loc st.length, st ++ [sn.map D.int])
  | .tup ds => some (.loc st.length, st ++ [ds])
  | .loc n => match st[n]? with
    | some ds => some (.loc st.length, st ++ [ds])
    | none => none
  | _ => none
theorem rp_ints : ∀ sn : List Int, RpAll G H L (sn.map V.int) (sn.map D.int)
  | [] => .nil
  | n :: r => .cons (.int n) (rp_ints r)
theorem c_list (hK : X.K = G.K) : CallM X G (.type "list") (f1 (gList G.sn)) := callM1 call_list_of fun x dx H L st Q rs rx d st' e q => by
  unfold gList at e
  split at e
  · cases e; cases rx
    refine ⟨_, _, rfl, .inl (by rw [hK]; exact rs.scr.sq), fun r hr => ?_⟩
    obtain ⟨po, rs2, rp⟩ := new_lst rs hr (rp_ints G.sn)
    exact q _ _ _ po rs2 rp
  · rename_i ds
    cases e
    obtain ⟨a, xs, rfl, hx, rxs⟩ := tup_inv rx
    refine ⟨a, xs, rfl, .inr (by rw [hK]; exact hx), fun r hr => ?_⟩
    obtain ⟨po, rs2, rp⟩ := new_lst rs hr rxs
    exact q _ _ _ po rs2 rp
  · rename_i n
    split at e
    · rename_i ds eds
      cases e
      obtain ⟨a, rfl, ha⟩ := loc_inv rx
      obtain ⟨xs, hx, rxs⟩ := rs.get ha eds
      refine ⟨a, xs, rfl, .inl (SqL.of hx), fun r hr => ?_⟩
      obtain ⟨po, rs2, rp⟩ := new_lst rs hr rxs
      exact q _ _ _ po rs2 rp
    · cases e
  · cases e
/-- all(a list of bools) -/
def allBl : List D → Option Bool
  | [] => some true
  | .bl b :: ds => match allBl ds with
    | some k => some (b && k)
    | none => none
  | _ :: _ => none
theorem allBl_spec {vs : List V} {ds : List D} {b : Bool} (r : RpAll G H L vs ds) (e : allBl ds = some b) : ∃ bs : List Bool, vs = bs.map V.bl ∧ bs.all id = b := by
  induction vs generalizing ds b with
  | nil => cases r; cases e; exact ⟨[], rfl, rfl⟩
  | cons v vs ih =>
    cases r with
    | cons h1 h2 =>
      unfold allBl at e
      split at e
      · rename_i heq; cases heq
      · rename_i c ds' heq
        cases heq
        split at e
        · rename_i k ek
          cases e
          cases h1
          obtain ⟨bs, e1, e2⟩ := ih h2 ek
          exact ⟨c :: bs, by rw [e1]; rfl, by simp [e2]⟩
        · cases e
      · cases e
def gAll (x : D) : O := fun st => match x with
  | .loc n => match st[n]? with
    | some ds => match allBl ds with
      | some b => some (.bl b, st)
      | none => none
    | none => none
  | _ => none
theorem c_all (hK : X.K = G.K) (h : CallR X (.builtin "all") (rAll X.K)) : CallM X G (.builtin "all") (f1 gAll) := callM1 h fun x dx H L st Q rs rx => fits_same rs fun d st' e => by
  unfold gAll at e
  split at e
  · rename_i n
    split at e
    · rename_i ds eds
      split at e
      · rename_i b eb
        cases e
        obtain ⟨a, rfl, ha⟩ := loc_inv rx
        obtain ⟨xs, hx, rxs⟩ := rs.get ha eds
        obtain ⟨bs, e1, e2⟩ := allBl_spec rxs eb
        exact ⟨rfl, _, .bl _, fun q => ⟨a, bs, rfl, SqL.of (by rw [← e1]; exact hx), by rw [e2]; exact q⟩⟩
      · cases e
    · cases e
  · cases e
/-- isinstance(x, T), T a built-in type -/
def tyOf : D → Option Nat
  | .int _ => some 0
  | .bl _ => some 1
  | .str _ => some 2
  | .tup _ => some 3
  | .loc _ => some 4
  | .non => some 5
  | _ => none
def isTy (a b : Nat) : Bool := a == b || (a == 1 && b == 0)
theorem isTy_kit : ∀ a : Nat, a < 6 → ∀ b : Nat, b < 6 → kitB (tyName a) (tyName b) = some (isTy a b) := by decide +kernel
theorem d_type {x : Str} {k : Nat} {pos} (hg : Gl X x) (hm : X.mg x = none) (hv : bootBuiltins x = some (.type (tyName k))) (hn : x ≠ "__name__" := by decide) (hd : (x == ("__debug__" : Str)) = false := by decide) : PE X (.Name x pos) (tM G E (eC (.ty k))) :=
  d_const (v := .ty (tyName k)) (pe_bltn hg hm hv rfl hn hd) fun _ _ => .ty k
def f2 (g : D → D → O) (ds : List D) : O := match ds with
  | [x, y] => g x y
  | _ => fun _ => none
theorem callM2 {f : Value} {r : List V → Hp → VK → Prop} {g : D → D → O} (h : CallR X f r) (hg : ∀ x y dx dy H L st Q, Rs G H L st → Rp G H L x dx → Rp G H L y dy → Fits G L H st (g dx dy) Q (r [x, y] H Q)) : CallM X G f (f2 g) := ⟨r, h, fun xs ds H L st Q rs rx d st' e q => by
  unfold f2 at e
  split at e
  · rename_i dx dy
    cases rx with
    | cons h1 h2 => cases h2 with
      | cons h2 h3 => cases h3; exact hg _ _ dx dy H L st Q rs h1 h2 d st' e q
  · cases e⟩
def gIsi (x y : D) : O := fun st => match tyOf x, y with
  | some a, .ty b => if b < 6 then some (.bl (isTy a b), st) else none
  | _, _ => none
theorem tyOf_spec {v : V} {d : D} {a : Nat} (rs : Rs G H L st) (r : Rp G H L v d) (e : tyOf d = some a) : TyX G.K H v (.type (tyName a)) ∧ a < 6 := by
  cases r with
  | non => cases e; exact ⟨.base .non, by decide⟩
  | bl b => cases e; exact ⟨.base (.bl b), by decide⟩
  | int i => cases e; exact ⟨.base (.int i), by decide⟩
  | str s => cases e; exact ⟨.base (.str s), by decide⟩
  | tup h1 h2 =>
    cases e
    refine ⟨?_, by decide⟩
    rcases h1 with (h | ⟨o, h⟩) | ⟨o, its, n, hk, hc, _⟩
    · exact .base (.tup h)
    · exact .fTuple h
    · exact .kTuple hk hc
  | loc h1 =>
    cases e
    obtain ⟨ys, hy⟩ := rs.lst _ (List.mem_of_getElem? h1)
    exact ⟨.base (.lst hy), by decide⟩
  | ty k => cases e
  | fn k => cases e
  | scr => cases e
  | exn c => cases e
  | raw w => cases e
theorem c_isi (hK : X.K = G.K) : CallM X G (.builtin "isinstance") (f2 gIsi) := callM2 call_isi fun x y dx dy H L st Q rs rx ry => fits_same rs fun d st' e => by
  unfold gIsi at e
  split at e
  · rename_i a b ea
    by_cases hb : b < 6
    · rw [if_pos hb] at e
      cases e; cases ry
      obtain ⟨t1, t2⟩ := tyOf_spec rs rx ea
      exact ⟨rfl, _, .bl _, fun q => ⟨x, _, _, _, _, rfl, .ty _, by rw [hK]; exact t1, kit_ty (isTy_kit a t2 b hb), q⟩⟩
    · rw [if_neg hb] at e; cases e
  · cases e
end Mir
/-! MirD: statements, loops, comprehensions, calls of the text's own defs. -/
namespace Mir
open PySem L2
variable {H H' H1 H2 : Hp} {L L' L1 L2 : List Addr} {st st' : Store} {X : Cx} {G : Gx} {E : XK}
/-- as many turns as no loop makes -/
abbrev FUEL : Nat := 1000000000000000000000000000000000000000000000000000000000000

/-! ### targets -/
mutual
inductive Tg where
  | nm (i : Nat) | tp (ts : Tgs)
inductive Tgs where
  | nil | cons (t : Tg) (ts : Tgs)
end
def Tgs.len : Tgs → Nat
  | .nil => 0
  | .cons _ ts => ts.len + 1
mutual
def Tg.set : Tg → D → Env → Option Env
  | .nm i, d, env => some (env.set i (some d))
  | .tp ts, d, env => match d with
    | .tup ds => Tgs.set ts ds env
    | _ => none
def Tgs.set : Tgs → List D → Env → Option Env
  | .nil, ds, env => match ds with
    | [] => some env
    | _ :: _ => none
  | .cons t ts, ds, env => match ds with
    | [] => none
    | d :: ds => match Tg.set t d env with
      | some env' => Tgs.set ts ds env'
      | none => none
end
mutual
def Tg.hs (K : W.Frag) : Tg → TG
  | .nm i => gName i
  | .tp ts => gTup K ts.len (Tgs.hs K ts)
def Tgs.hs (K : W.Frag) : Tgs → TGs
  | .nil => gNil
  | .cons t ts => gCons (Tg.hs K t) (Tgs.hs K ts)
end
mutual
def Tg.on (vs : List Nat) : Tg → Bool
  | .nm i => vs.contains i
  | .tp ts => Tgs.on vs ts
def Tgs.on (vs : List Nat) : Tgs → Bool
  | .nil => true
  | .cons t ts => Tg.on vs t && Tgs.on vs ts
end
theorem wipe_get {σ : St} {vs : List Nat} {j : Nat} : (wipe σ vs)[j]? = if j ∈ vs then (if j < σ.length then some none else none) else σ[j]? := by
  induction vs with
  | nil => rfl
  | cons v vs ih =>
    show ((wipe σ vs).set v none)[j]? = _
    by_cases h : v = j
    · subst h
      rw [if_pos List.mem_cons_self]
      by_cases hl : v < σ.length
      · rw [if_pos hl, List.getElem?_set_self (by rw [wipe_length]; exact hl)]
      · rw [if_neg hl, List.getElem?_eq_none (by rw [List.length_set, wipe_length]; omega)]
    · rw [List.getElem?_set_ne h, ih]
      by_cases hm : j ∈ vs
      · rw [if_pos hm, if_pos (List.mem_cons_of_mem _ hm)]
      · rw [if_neg hm, if_neg (by simp only [List.mem_cons, not_or]; exact ⟨fun e => h e.symm, hm⟩)]
theorem wipe_set {σ : St} {i : Nat} {v : Option V} {vs : List Nat} (hi : i ∈ vs) : wipe (σ.set i v) vs = wipe σ vs := by
  refine List.ext_getElem? fun j => ?_
  rw [wipe_get, wipe_get]
  by_cases hj : j ∈ vs
  · rw [if_pos hj, if_pos hj, List.length_set]
  · rw [if_neg hj, if_neg hj, List.getElem?_set_ne (fun e => hj (by rw [← e]; exact hi))]
mutual
theorem Tg.ok (hL : ∀ b, b ∈ L → ∃ ys, H b = some (.lst ys)) : ∀ (t : Tg) {σ : St} {env env' : Env} {v : V} {d : D} {Q : St → Hp → Prop}, RpEnv G H L σ env → Rp G H L v d → Tg.set t d env = some env' →
    (∀ σ', RpEnv G H L σ' env' → (∀ vs, Tg.on vs t = true → wipe σ' vs = wipe σ vs) → Q σ' H) → Tg.hs G.K t v σ H Q
  | .nm i, σ, env, env', v, d, Q, re, rv, e, q => by
    have e : some (env.set i (some d)) = some env' := e
    cases e
    exact q _ (re.set rv i) fun vs hv => wipe_set (by simpa [Tg.on] using hv)
  | .tp ts, σ, env, env', v, d, Q, re, rv, e, q => by
    cases d with
    | tup ds =>
      obtain ⟨a, xs, rfl, hx, rxs⟩ := tup_inv rv
      obtain ⟨hl, r⟩ := Tgs.ok hL ts re rxs e q
      exact ⟨a, xs, rfl, hx, by rw [rxs.length, hl], r⟩
    | _ => cases e
theorem Tgs.ok (hL : ∀ b, b ∈ L → ∃ ys, H b = some (.lst ys)) : ∀ (ts : Tgs) {σ : St} {env env' : Env} {vs : List V} {ds : List D} {Q : St → Hp → Prop}, RpEnv G H L σ env → RpAll G H L vs ds → Tgs.set ts ds env = some env' →
    (∀ σ', RpEnv G H L σ' env' → (∀ vs, Tgs.on vs ts = true → wipe σ' vs = wipe σ vs) → Q σ' H) → ds.length = ts.len ∧ Tgs.hs G.K ts vs σ H Q
  | .nil, σ, env, env', vs, ds, Q, re, rv, e, q => by
    cases ds with
    | nil =>
      cases rv
      cases e
      exact ⟨rfl, rfl, q σ re fun _ _ => rfl⟩
    | cons d ds => cases e
  | .cons t ts, σ, env, env', vs, ds, Q, re, rv, e, q => by
    cases ds with
    | nil => cases e
    | cons d ds =>
      cases rv with
      | @cons x _ xs _ h1 h2 =>
        have e : (match Tg.set t d env with | some env' => Tgs.set ts ds env' | none => none) = some env' := e
        cases e1 : Tg.set t d env with
        | none => rw [e1] at e; cases e
        | some env1 =>
          rw [e1] at e
          have hl : ds.length = ts.len := by
            exact Tgs.len_of ts e
          refine ⟨by simp [Tgs.len, hl], x, xs, rfl, Tg.ok hL t re h1 e1 fun σ1 re1 w1 => ?_⟩
          refine (Tgs.ok hL ts re1 h2 e fun σ2 re2 w2 => q σ2 re2 fun vs hv => ?_).2
          have hv : (Tg.on vs t && Tgs.on vs ts) = true := hv
          rw [Bool.and_eq_true] at hv
          rw [w2 vs hv.2, w1 vs hv.1]
theorem Tgs.len_of : ∀ (ts : Tgs) {env env' : Env} {ds : List D}, Tgs.set ts ds env = some env' → ds.length = ts.len
  | .nil, env, env', ds, e => by
    cases ds with
    | nil => rfl
    | cons d ds => cases e
  | .cons t ts, env, env', ds, e => by
    cases ds with
    | nil => cases e
    | cons d ds =>
      have e : (match Tg.set t d env with | some env' => Tgs.set ts ds env' | none => none) = some env' := e
      cases e1 : Tg.set t d env with
      | none => rw [e1] at e; cases e
      | some env1 =>
        rw [e1] at e
        simp [Tgs.len, Tgs.len_of ts e]
end

/-! ### statements -/
inductive Fl where
  | next (env : Env) | ret (d : D) | brk (env : Env) | cont (env : Env)
abbrev SM := Env → M Fl
def Ends.on (G : Gx) (Dn : Ends) (f : Fl) (L : List Addr) (H : Hp) : Prop := match f with
  | .next env => ∀ σ, RpEnv G H L σ env → Dn.nx σ H
  | .ret d => ∀ v, Rp G H L v d → Dn.rt v H
  | .brk env => ∀ σ, RpEnv G H L σ env → Dn.bk σ H
  | .cont env => ∀ σ, RpEnv G H L σ env → Dn.ct σ H
def tS (G : Gx) (E : XK) (m : SM) : TS := fun Dn σ H => ∃ L st env, Rs G H L st ∧ RpEnv G H L σ env ∧ Pst G E L H (m env st) fun f _ L' H' => Ends.on G Dn f L' H'
def sNil : SM := fun env => mpure (.next env)
def sSeq (m n : SM) : SM := fun env => mbind (m env) fun f => match f with
  | .next env' => n env'
  | f => mpure f
theorem ds_nil : PSs X [] (tS G E sNil) := PSs.imp pss_nil fun Dn σ H ⟨L, st, env, rs, re, p⟩ => p H L (Po.refl _ _) rs σ re
theorem ds_cons {s : Stmt} {rest : List Stmt} {m n : SM} (h : PS X s (tS G E m)) (h' : PSs X rest (tS G E n)) : PSs X (s :: rest) (tS G E (sSeq m n)) := by
  refine PSs.imp (pss_cons h h') fun Dn σ H ⟨L, st, env, rs, re, p⟩ => ?_
  refine ⟨L, st, env, rs, re, (Pst.bind (m := m env) p).mono fun f st1 L1 H1 po1 rs1 q => ?_⟩
  cases f with
  | next env' => exact fun σ' re' => ⟨L1, st1, env', rs1, re', q⟩
  | ret d => exact q H1 L1 (Po.refl _ _) rs1
  | brk env' => exact q H1 L1 (Po.refl _ _) rs1
  | cont env' => exact q H1 L1 (Po.refl _ _) rs1
theorem ds_one {s : Stmt} {m : SM} (h : PS X s (tS G E m)) : PSs X [s] (tS G E m) := pss_one h
theorem ds_pass {pos} : PS X (.Pass pos) (tS G E sNil) := PS.imp ps_pass fun Dn σ H ⟨L, st, env, rs, re, p⟩ => p H L (Po.refl _ _) rs σ re
def sBrk : SM := fun env => mpure (.brk env)
def sCont : SM := fun env => mpure (.cont env)
theorem ds_break {pos} : PS X (.Break pos) (tS G E sBrk) := PS.imp ps_break fun Dn σ H ⟨L, st, env, rs, re, p⟩ => p H L (Po.refl _ _) rs σ re
theorem ds_continue {pos} : PS X (.Continue pos) (tS G E sCont) := PS.imp ps_continue fun Dn σ H ⟨L, st, env, rs, re, p⟩ => p H L (Po.refl _ _) rs σ re
def sExpr (m : EM D) : SM := fun env => mbind (m env) fun _ => mpure (.next env)
theorem ds_expr {e : Expr} {m : EM D} {pos : Pos} (h : PE X e (tM G E m)) (hs : swapsWith e none pos.line X.env = pure false := by rfl) : PS X (.Expr e pos) (tS G E (sExpr m)) := by
  refine PS.imp (ps_expr h hs) fun Dn σ H ⟨L, st, env, rs, re, p⟩ => ?_
  refine ⟨L, st, env, rs, re, (Pst.bind (m := m env) p).mono fun d st1 L1 H1 po1 rs1 q v rv => ?_⟩
  exact q H1 L1 (Po.refl _ _) rs1 σ (re.po po1 rs.lst)
def sRet (m : EM D) : SM := fun env => mbind (m env) fun d => mpure (.ret d)
theorem ds_ret {e : Expr} {m : EM D} {pos : Pos} (h : PE X e (tM G E m)) : PS X (.Return (some e) pos) (tS G E (sRet m)) := by
  refine PS.imp (ps_ret h) fun Dn σ H ⟨L, st, env, rs, re, p⟩ => ?_
  refine ⟨L, st, env, rs, re, (Pst.bind (m := m env) p).mono fun d st1 L1 H1 po1 rs1 q v rv => ?_⟩
  exact q H1 L1 (Po.refl _ _) rs1 v rv
def sIf (c : EM Bool) (m n : SM) : SM := fun env => mbind (c env) fun b => if b then m env else n env
theorem ds_if {c : Expr} {a b : List Stmt} {mc : EM Bool} {m n : SM} {pos : Pos} (hc : PT X c (tT G E mc)) (ha : PSs X a (tS G E m)) (hb : PSs X b (tS G E n)) : PS X (.If c a b pos) (tS G E (sIf mc m n)) := by
  refine PS.imp (ps_if hc ha hb) fun Dn σ H ⟨L, st, env, rs, re, p⟩ => ?_
  refine ⟨L, st, env, rs, re, (Pst.bind (m := mc env) p).mono fun b st1 L1 H1 po1 rs1 q => ?_⟩
  cases b with
  | true => exact ⟨L1, st1, env, rs1, re.po po1 rs.lst, q⟩
  | false => exact ⟨L1, st1, env, rs1, re.po po1 rs.lst, q⟩
def sAsg (m : EM D) (t : Tg) : SM := fun env => mbind (m env) fun d => match Tg.set t d env with
  | some env' => mpure (.next env')
  | none => mbad
theorem asg_k {m : EM D} {t : Tg} {Dn : Ends} {σ : St} (h : tS G E (sAsg m t) Dn σ H) : tAsg (tM G E m) (Tg.hs G.K t) Dn σ H := by
  obtain ⟨L, st, env, rs, re, p⟩ := h
  refine ⟨L, st, env, rs, re, (Pst.bind (m := m env) p).mono fun d st1 L1 H1 po1 rs1 q v rv => ?_⟩
  cases e : Tg.set t d env with
  | none => rw [e] at q; exact q.elim
  | some env' =>
    rw [e] at q
    exact Tg.ok rs1.lst t (re.po po1 rs.lst) rv e fun σ' re' _ => q H1 L1 (Po.refl _ _) rs1 σ' re'
theorem ds_asg {tg e : Expr} {m : EM D} {t : Tg} {pos : Pos} (he : PE X e (tM G E m)) (hg : PG X tg (Tg.hs G.K t)) (h : ∀ te g, PE X e te → PG X tg g → PS X (.Assign [tg] e pos) (tAsg te g)) :
    PS X (.Assign [tg] e pos) (tS G E (sAsg m t)) := PS.imp (h _ _ he hg) fun Dn σ H h => asg_k h
theorem dg_name {i : Nat} {x : Str} {pos : Pos} (hN : X.N.Nodup) (hi : X.N[i]? = some x) (hx : Loc X.env.scope x) (hf : X.fn x = true ∨ X.env.scope.names.lookup x = some .local := by first | exact .inl rfl | exact .inr rfl | assumption) : PG X (.Name x pos) (Tg.hs G.K (.nm i)) := pg_name hN hi hx hf
theorem dgs_nil : PGs X [] (Tgs.hs G.K .nil) := pgs_nil
theorem dgs_cons {e : Expr} {es : List Expr} {t : Tg} {ts : Tgs} (h : PG X e (Tg.hs G.K t)) (h' : PGs X es (Tgs.hs G.K ts)) (hp : ∀ t u, PG X e t → PGs X es u → PGs X (e :: es) (gCons t u)) : PGs X (e :: es) (Tgs.hs G.K (.cons t ts)) := hp _ _ h h'
theorem dg_tup {es : List Expr} {ts : Tgs} {k : Nat} {pos : Pos} (hK : X.K = G.K) (h : PGs X es (Tgs.hs G.K ts)) (hp : ∀ t, PGs X es t → PG X (.Tuple es k pos) (gTup X.K ts.len t)) : PG X (.Tuple es k pos) (Tg.hs G.K (.tp ts)) := by
  have z := hp _ h
  rw [hK] at z
  exact z
/-- a, b = x, y by plain names -/
def sPar (i j : Nat) (ms : EM (List D)) : SM := fun env => mbind (ms env) fun ds => match ds with
  | [a, b] => mpure (.next ((env.set i (some a)).set j (some b)))
  | _ => mbad
theorem par_k {i j : Nat} {ms : EM (List D)} {Dn : Ends} {σ : St} (h : tS G E (sPar i j ms) Dn σ H) : tPar i j (tA G E ms) Dn σ H := by
  obtain ⟨L, st, env, rs, re, p⟩ := h
  refine ⟨L, st, env, rs, re, (Pst.bind (m := ms env) p).mono fun ds st1 L1 H1 po1 rs1 q vs rv => ?_⟩
  split at q
  · rename_i a b
    cases rv with
    | cons h1 h2 => cases h2 with
      | cons h2 h3 =>
        cases h3
        exact ⟨_, _, rfl, q H1 L1 (Po.refl _ _) rs1 _ (((re.po po1 rs.lst).set h1 i).set h2 j)⟩
  · exact q.elim
/-- o[i] = e, o a list -/
def sSet (me mo mi : EM D) : SM := fun env => mbind (me env) fun d => mbind (mo env) fun o => mbind (mi env) fun i => fun st => match o, i with
  | .loc n, .int k => match st[n]? with
    | some ds => match ixN ds.length k with
      | some j => .ok (.next env) (st.set n (ds.set j d))
      | none => .bad
    | none => .bad
  | _, _ => .bad
theorem ds_set {o i e : Expr} {me mo mi : EM D} {pos tpos : Pos} (he : PE X e (tM G E me)) (ho : PE X o (tM G E mo)) (hi : PE X i (tM G E mi))
    (h : ∀ te to ti, PE X e te → PE X o to → PE X i ti → PS X (.Assign [.Subscript o i tpos] e pos) (tAsg te (gSub to ti rSetL))) : PS X (.Assign [.Subscript o i tpos] e pos) (tS G E (sSet me mo mi)) := by
  refine PS.imp (h _ _ _ he ho hi) fun Dn σ H ⟨L, st, env, rs, re, p⟩ => ?_
  refine ⟨L, st, env, rs, re, (Pst.bind (m := me env) p).mono fun d st1 L1 H1 po1 rs1 q v rv => ?_⟩
  have re1 := re.po po1 rs.lst
  refine ⟨L1, st1, env, rs1, re1, (Pst.bind (m := mo env) q).mono fun od st2 L2 H2 po2 rs2 q2 ov rov => ?_⟩
  have re2 := re1.po po2 rs1.lst
  refine ⟨L2, st2, env, rs2, re2, (Pst.bind (m := mi env) q2).mono fun id st3 L3 H3 po3 rs3 q3 iv riv => ?_⟩
  have re3 := re2.po po3 rs2.lst
  have rv3 := ((rv.po po2 rs1.lst).po po3 rs2.lst)
  have rov3 := rov.po po3 rs2.lst
  split at q3
  · rename_i n k
    split at q3
    · rename_i ds eds
      split at q3
      · rename_i j ej
        obtain ⟨a, rfl, ha⟩ := loc_inv rov3
        cases riv
        obtain ⟨xs, hx, rxs⟩ := rs3.get ha eds
        obtain ⟨po4, rs4⟩ := set_lst rs3 ha (rxs.set rv3 j)
        exact ⟨a, xs, k, j, rfl, rfl, hx, by rw [rxs.length]; exact ej, q3 _ _ po4 rs4 σ (re3.po po4 rs3.lst)⟩
      · exact q3.elim
    · exact q3.elim
  · exact q3.elim
/-- raise C(..), the c-th class -/
def sRaise (c : Nat) : SM := fun _ => mraise c
theorem ds_raise {e : Expr} {c : Nat} {pos : Pos} (hn : c < 1000) (hc : X.calm = true) (tk : L2N.Takes X (fun cls d _ H => E cls d H)) (he : L2N.PMk X e (fun _ H Q => Q (.ref (G.ct c)) none H)) : PS X (.Raise (some e) none pos) (tS G E (sRaise c)) :=
  PS.imp (L2N.ps_raise hc tk he) fun Dn σ H ⟨L, st, env, rs, re, p⟩ => by
    have q := p H L (Po.refl _ _) rs
    unfold ExE at q
    rw [if_pos hn] at q
    exact q

/-! ### while -/
def whileN (c : EM Bool) (b : SM) : Nat → SM := fun n => Nat.rec (fun _ => mbad) (fun _ ih env => mbind (c env) fun k => if k then mbind (b env) fun f => match f with
  | .next env' => ih env'
  | .cont env' => ih env'
  | .brk env' => mpure (.next env')
  | .ret d => mpure (.ret d) else mpure (.next env)) n
def sWhile (c : EM Bool) (b : SM) : SM := whileN c b FUEL
theorem whileN_succ (c : EM Bool) (b : SM) (n : Nat) (env : Env) : whileN c b (n + 1) env = mbind (c env) fun k => if k then mbind (b env) fun f => match f with
  | .next env' => whileN c b n env'
  | .cont env' => whileN c b n env'
  | .brk env' => mpure (.next env')
  | .ret d => mpure (.ret d) else mpure (.next env) := rfl
theorem ds_while {c : Expr} {body : List Stmt} {mc : EM Bool} {mb : SM} {pos : Pos} (hp : PassesOwn (model X.prog X.w) X.A X.env X.xe) (hc : PT X c (tT G E mc)) (hb : PSs X body (tS G E mb)) : PS X (.While c body [] pos) (tS G E (sWhile mc mb)) := by
  refine PS.imp (ps_while hp hc hb) fun Dn σ H ⟨L, st, env, rs, re, p⟩ => ?_
  refine ⟨fun n σ H => ∃ L st env, Rs G H L st ∧ RpEnv G H L σ env ∧ Pst G E L H (whileN mc mb n env st) fun f _ L' H' => Ends.on G Dn f L' H', ⟨FUEL, L, st, env, rs, re, p⟩, fun n σ H ⟨L, st, env, rs, re, p⟩ => ?_⟩
  cases n with
  | zero => exact p.elim
  | succ n =>
    rw [whileN_succ] at p
    refine ⟨L, st, env, rs, re, (Pst.bind (m := mc env) p).mono fun b st1 L1 H1 po1 rs1 q => ?_⟩
    have re1 := re.po po1 rs.lst
    cases b with
    | false => exact q H1 L1 (Po.refl _ _) rs1 σ re1
    | true =>
      refine ⟨fun σ' H' => ∃ L st env, Rs G H' L st ∧ RpEnv G H' L σ' env ∧ Pst G E L H' (whileN mc mb n env st) fun f _ L' H' => Ends.on G Dn f L' H', fun σ' H' h => ⟨n, Nat.lt_succ_self n, h⟩, ?_⟩
      refine ⟨L1, st1, env, rs1, re1, (Pst.bind (m := mb env) q).mono fun f st2 L2 H2 po2 rs2 q2 => ?_⟩
      cases f with
      | next env' => exact fun σ' re' => ⟨L2, st2, env', rs2, re', q2⟩
      | cont env' => exact fun σ' re' => ⟨L2, st2, env', rs2, re', q2⟩
      | brk env' => exact q2 H2 L2 (Po.refl _ _) rs2
      | ret d => exact q2 H2 L2 (Po.refl _ _) rs2

/-! ### what is walked -/
abbrev Nx := Nat → Store → Option (Option D)
def ItOk (G : Gx) (L0 : List Addr) (H0 : Hp) (J : It) (nx : Nx) : Prop := ∀ L H st i, Po L0 L H0 H → Rs G H L st →
  (nx i st = some none → J.stop i H) ∧ ∀ d, nx i st = some (some d) → J.go i H ∧ ∀ x H', J.yld i H x H' → Po L L H H' ∧ Rs G H' L st ∧ Rp G H' L x d
def tI (G : Gx) (E : XK) (m : EM Nx) : TI := fun σ H R => ∃ L st env, Rs G H L st ∧ RpEnv G H L σ env ∧ Pst G E L H (m env st) fun nx _ L' H' => ∀ J, ItOk G L' H' J nx → R J H'
theorem PI.imp {tg e : Expr} {t t' : TI} (h : PI X tg e t) (i : ∀ σ H Q, t' σ H Q → t σ H Q) : PI X tg e t' := ⟨fun pins s σ H Q I q => h.run pins s σ H Q I (i σ H Q q)⟩
theorem PI.or {tg e : Expr} {t t' : TI} (h : PI X tg e t) (h' : PI X tg e t') : PI X tg e (fun σ H R => t σ H R ∨ t' σ H R) := ⟨fun pins s σ H Q I q => by
  rcases q with q | q
  · exact h.run pins s σ H Q I q
  · exact h'.run pins s σ H Q I q⟩
def nxLoc (n : Nat) : Nx := fun i st => match st[n]? with
  | some ds => some ds[i]?
  | none => none
theorem it_loc {n : Nat} {a : Addr} (hn : L[n]? = some a) : ItOk G L H (Itl G.K a) (nxLoc n) := fun L1 H1 st i po rs => by
  have hn1 := pre_get po.pre hn
  unfold nxLoc
  cases e : st[n]? with
  | none =>
    refine ⟨fun h => ?_, fun d h => ?_⟩
    · cases h
    · cases h
  | some ds =>
    obtain ⟨xs, hx, rxs⟩ := rs.get hn1 e
    refine ⟨fun h => ?_, fun d h => ?_⟩
    · have h : ds[i]? = none := Option.some.inj h
      have hl := List.getElem?_eq_none_iff.mp h
      exact ⟨xs, SqL.of hx, by rw [rxs.length]; exact hl⟩
    · have h : ds[i]? = some d := Option.some.inj h
      obtain ⟨v, hv, rv⟩ := rxs.get h
      refine ⟨⟨xs, v, SqL.of hx, hv⟩, fun x H' y => ?_⟩
      obtain ⟨e1, e2⟩ := y
      subst e1
      have e3 := e2 xs (SqL.of hx)
      rw [hv] at e3
      cases e3
      exact ⟨Po.refl _ _, rs, rv⟩
def nxOf : D → Option Nx
  | .loc n => some (nxLoc n)
  | .tup ds => some fun i _ => some ds[i]?
  | _ => none
def iOf (m : EM D) : EM Nx := fun env => mbind (m env) fun d => match nxOf d with
  | some nx => mpure nx
  | none => mbad
theorem it_tup {a : Addr} {xs : List V} {ds : List D} (hL : ∀ b, b ∈ L → ∃ ys, H b = some (.lst ys)) (hx : SqT G.K H a xs) (rx : RpAll G H L xs ds) : ItOk G L H (Itt G.K a) (fun i _ => some ds[i]?) := fun L1 H1 st i po rs => by
  have hx1 := SqT.po hx po hL
  have rx1 := rx.po po hL
  refine ⟨fun h => ?_, fun d h => ?_⟩
  · have h : ds[i]? = none := Option.some.inj h
    have hl := List.getElem?_eq_none_iff.mp h
    exact ⟨xs, hx1, by rw [rx1.length]; exact hl⟩
  · have h : ds[i]? = some d := Option.some.inj h
    obtain ⟨v, hv, rv⟩ := rx1.get h
    refine ⟨⟨xs, v, hx1, hv⟩, fun x H' y => ?_⟩
    obtain ⟨e1, e2⟩ := y
    subst e1
    have e3 := e2 xs hx1
    rw [hv] at e3
    cases e3
    exact ⟨Po.refl _ _, rs, rv⟩
theorem di_of {tg e : Expr} {m : EM D} (hK : X.K = G.K) (h : PE X e (tM G E m)) : PI X tg e (tI G E (iOf m)) := by
  refine PI.imp (PI.or (pi_list h) (pi_tup h)) fun σ H R ⟨L, st, env, rs, re, p⟩ => ?_
  have p := Pst.bind (m := m env) p
  cases e : m env st with
  | bad => rw [e] at p; exact p.elim
  | exc c st1 => exact .inl ⟨L, st, env, rs, re, by rw [e] at p ⊢; exact p⟩
  | ok d st1 =>
    rw [e] at p
    cases d with
    | tup ds =>
      refine .inr ⟨L, st, env, rs, re, ?_⟩
      rw [e]
      intro H1 L1 po1 rs1 v rv
      obtain ⟨a, xs, rfl, hx, rxs⟩ := tup_inv rv
      refine ⟨a, rfl, ⟨xs, by rw [hK]; exact hx⟩, ?_⟩
      rw [hK]
      exact p H1 L1 po1 rs1 H1 L1 (Po.refl _ _) rs1 _ (it_tup rs1.lst hx rxs)
    | loc n =>
      refine .inl ⟨L, st, env, rs, re, ?_⟩
      rw [e]
      intro H1 L1 po1 rs1 v rv
      obtain ⟨a, rfl, ha⟩ := loc_inv rv
      obtain ⟨ys, hy⟩ := rs1.lst a (List.mem_of_getElem? ha)
      refine ⟨a, rfl, ⟨ys, SqL.of hy⟩, ?_⟩
      rw [hK]
      exact p H1 L1 po1 rs1 H1 L1 (Po.refl _ _) rs1 _ (it_loc ha)
    | _ =>
      refine .inl ⟨L, st, env, rs, re, ?_⟩
      rw [e]
      exact fun H1 L1 po1 rs1 v rv => (p H1 L1 po1 rs1).elim

/-- range(a), range(a, b) -/
def nxRange (lo : Int) (n : Nat) : Nx := fun i _ => some (if i < n then some (.int (lo + i)) else none)
theorem it_range {lo : Int} {n : Nat} : ItOk G L H (Itr lo n) (nxRange lo n) := fun L1 H1 st i po rs => by
  unfold nxRange
  by_cases hi : i < n
  · rw [if_pos hi]
    refine ⟨fun h => ?_, fun d h => ?_⟩
    · cases h
    · cases h
      refine ⟨hi, fun x H' y => ?_⟩
      obtain ⟨e1, e2⟩ := y
      subst e1; subst e2
      exact ⟨Po.refl _ _, rs, .int _⟩
  · rw [if_neg hi]
    refine ⟨fun h => Nat.le_of_not_lt hi, fun d h => ?_⟩
    cases h
def rBound (i : Int) : Bool := decide (-(2 ^ 62) ≤ i) && decide (i < 2 ^ 62)
theorem rBound_of {i : Int} (h : rBound i = true) : -(2 ^ 62) ≤ i ∧ i < 2 ^ 62 := by
  unfold rBound at h
  rw [Bool.and_eq_true] at h
  exact ⟨of_decide_eq_true h.1, of_decide_eq_true h.2⟩
def iRange (ms : EM (List D)) : EM Nx := fun env => mbind (ms env) fun ds => match ds with
  | [.int j] => if rBound j then mpure (nxRange 0 j.toNat) else mbad
  | [.int i, .int j] => if rBound i && rBound j then mpure (nxRange i (j - i).toNat) else mbad
  | _ => mbad
theorem di_range1 {tg it a : Expr} {ms : EM (List D)} (h : ∀ ta, PA X [a] ta → PI X tg it (iRng1 ta)) (ha : PA X [a] (tA G E ms)) (h1 : ∀ env st ds st', ms env st = .ok ds st' → ds.length = 1) : PI X tg it (tI G E (iRange ms)) := by
  refine PI.imp (h _ ha) fun σ H R ⟨L, st, env, rs, re, p⟩ => ?_
  refine ⟨L, st, env, rs, re, ?_⟩
  have p := Pst.bind (m := ms env) p
  cases e : ms env st with
  | bad => rw [e] at p; exact p.elim
  | exc c st1 => rw [e] at p; exact p
  | ok ds st1 =>
    rw [e] at p
    intro H1 L1 po1 rs1 vs rv
    have q := p H1 L1 po1 rs1
    have hl := h1 _ _ _ _ e
    dsimp only at q
    split at q
    · rename_i j
      by_cases hj : rBound j = true
      · rw [if_pos hj] at q
        cases rv with
        | cons h1 h2 =>
          cases h2; cases h1
          exact ⟨j, rfl, (rBound_of hj).1, (rBound_of hj).2, q H1 L1 (Po.refl _ _) rs1 _ it_range⟩
      · rw [if_neg hj] at q; exact q.elim
    · simp at hl
    · exact q.elim
theorem di_range2 {tg it a b : Expr} {ms : EM (List D)} (h : ∀ ta, PA X [a, b] ta → PI X tg it (iRng2 ta)) (ha : PA X [a, b] (tA G E ms)) (h1 : ∀ env st ds st', ms env st = .ok ds st' → ds.length = 2) : PI X tg it (tI G E (iRange ms)) := by
  refine PI.imp (h _ ha) fun σ H R ⟨L, st, env, rs, re, p⟩ => ?_
  refine ⟨L, st, env, rs, re, ?_⟩
  have p := Pst.bind (m := ms env) p
  cases e : ms env st with
  | bad => rw [e] at p; exact p.elim
  | exc c st1 => rw [e] at p; exact p
  | ok ds st1 =>
    rw [e] at p
    intro H1 L1 po1 rs1 vs rv
    have q := p H1 L1 po1 rs1
    have hl := h1 _ _ _ _ e
    dsimp only at q
    split at q
    · simp at hl
    · rename_i i j
      by_cases hj : (rBound i && rBound j) = true
      · rw [if_pos hj] at q
        rw [Bool.and_eq_true] at hj
        cases rv with
        | cons h1 h2 =>
          cases h2 with
          | cons h2 h3 =>
            cases h3; cases h1; cases h2
            exact ⟨i, j, rfl, ⟨(rBound_of hj.1).1, (rBound_of hj.1).2, (rBound_of hj.2).1, (rBound_of hj.2).2⟩, q H1 L1 (Po.refl _ _) rs1 _ it_range⟩
      · rw [if_neg hj] at q; exact q.elim
    · exact q.elim
theorem len_nil (env : Env) (st : Store) (ds : List D) (st' : Store) (h : aNil env st = .ok ds st') : ds.length = 0 := by
  unfold aNil at h; cases h; rfl
theorem len_cons {m : EM D} {ms : EM (List D)} {n : Nat} (h : ∀ env st ds st', ms env st = .ok ds st' → ds.length = n) (env : Env) (st : Store) (ds : List D) (st' : Store) (e : aCons m ms env st = .ok ds st') : ds.length = n + 1 := by
  simp only [aCons, mbind] at e
  split at e
  · split at e
    · rename_i e2
      cases e
      simp [h _ _ _ _ e2]
    · cases e
    · cases e
  · cases e
  · cases e
/-- zip of two lists, of two tuples -/
def nxZip (a b : Nx) : Nx := fun i st => match a i st, b i st with
  | some (some x), some (some y) => some (some (.tup [x, y]))
  | some none, some _ => some none
  | some _, some none => some none
  | _, _ => none
def iZipM (ms : EM (List D)) : EM Nx := fun env => mbind (ms env) fun ds => match ds with
  | [.loc n, .loc m] => mpure (nxZip (nxLoc n) (nxLoc m))
  | [.tup xs, .tup ys] => mpure (nxZip (fun i _ => some xs[i]?) (fun i _ => some ys[i]?))
  | _ => mbad
theorem nxZip_inv {a b : Nx} {i : Nat} {r : Option D} (h : nxZip a b i st = some r) : ∃ p q, a i st = some p ∧ b i st = some q ∧ ((∃ x y, p = some x ∧ q = some y ∧ r = some (.tup [x, y])) ∨ ((p = none ∨ q = none) ∧ r = none)) := by
  unfold nxZip at h
  split at h
  · rename_i x y e1 e2
    cases h
    exact ⟨_, _, e1, e2, .inl ⟨x, y, rfl, rfl, rfl⟩⟩
  · rename_i z e1 e2
    cases h
    exact ⟨_, _, e1, e2, .inr ⟨.inl rfl, rfl⟩⟩
  · rename_i z e1 e2
    cases h
    exact ⟨_, _, e1, e2, .inr ⟨.inr rfl, rfl⟩⟩
  · cases h
theorem zip_new (rs : Rs G H L st) {T : Addr} {x y : V} {dx dy : D} (hT : H T = none) (rx : Rp G H L x dx) (ry : Rp G H L y dy) :
    Po L L H (upd H T (.tup [x, y])) ∧ Rs G (upd H T (.tup [x, y])) L st ∧ Rp G (upd H T (.tup [x, y])) L (.ref T) (.tup [dx, dy]) := new_tup rs hT (.cons rx (.cons ry .nil))
theorem it_zip {n m : Nat} {a b : Addr} (hn : L[n]? = some a) (hm : L[m]? = some b) : ItOk G L H (Itz G.K a b) (nxZip (nxLoc n) (nxLoc m)) := fun L1 H1 st i po rs => by
  have get : ∀ {n : Nat} {a : Addr} {p : Option D}, L[n]? = some a → nxLoc n i st = some p → ∃ (xs : List V) (ds : List D), H1 a = some (.lst xs) ∧ RpAll G H1 L1 xs ds ∧ ds[i]? = p := fun {n a p} hn e => by
    unfold nxLoc at e
    split at e
    · rename_i ds eds
      obtain ⟨xs, hx, rxs⟩ := rs.get (pre_get po.pre hn) eds
      cases e
      exact ⟨xs, ds, hx, rxs, rfl⟩
    · cases e
  refine ⟨fun h => ?_, fun d h => ?_⟩
  · obtain ⟨p, q, e1, e2, e3⟩ := nxZip_inv h
    obtain ⟨xs, ds, hx, rx, i1⟩ := get hn e1
    obtain ⟨ys, es, hy, ry, i2⟩ := get hm e2
    rcases e3 with ⟨_, _, _, _, z⟩ | ⟨z, _⟩
    · cases z
    · refine ⟨xs, ys, SqL.of hx, SqL.of hy, ?_⟩
      rw [rx.length, ry.length]
      rcases z with z | z
      · subst z; exact .inl (List.getElem?_eq_none_iff.mp i1)
      · subst z; exact .inr (List.getElem?_eq_none_iff.mp i2)
  · obtain ⟨p, q, e1, e2, e3⟩ := nxZip_inv h
    obtain ⟨xs, ds, hx, rx, i1⟩ := get hn e1
    obtain ⟨ys, es, hy, ry, i2⟩ := get hm e2
    rcases e3 with ⟨x, y, rfl, rfl, z⟩ | ⟨_, z⟩
    · cases z
      obtain ⟨v, hv, rv⟩ := rx.get i1
      obtain ⟨w, hw, rw'⟩ := ry.get i2
      refine ⟨⟨xs, ys, v, w, SqL.of hx, SqL.of hy, hv, hw⟩, fun u H' hyl => ?_⟩
      obtain ⟨T, x', y', rfl, hT, rfl, f1, f2⟩ := hyl
      have g1 := f1 xs (SqL.of hx)
      have g2 := f2 ys (SqL.of hy)
      rw [hv] at g1; rw [hw] at g2
      cases g1; cases g2
      exact zip_new rs hT rv rw'
    · cases z
theorem it_zipT {a b : Addr} {xs ys : List V} {ds es : List D} (hL : ∀ b, b ∈ L → ∃ ys, H b = some (.lst ys)) (hx : SqT G.K H a xs) (rx : RpAll G H L xs ds) (hy : SqT G.K H b ys) (ry : RpAll G H L ys es) :
    ItOk G L H (RZ.ItzT G.K a b) (nxZip (fun i _ => some ds[i]?) (fun i _ => some es[i]?)) := fun L1 H1 st i po rs => by
  have hx1 := SqT.po hx po hL
  have rx1 := rx.po po hL
  have hy1 := SqT.po hy po hL
  have ry1 := ry.po po hL
  refine ⟨fun h => ?_, fun d h => ?_⟩
  · obtain ⟨p, q, e1, e2, e3⟩ := nxZip_inv h
    have i1 : ds[i]? = p := Option.some.inj e1
    have i2 : es[i]? = q := Option.some.inj e2
    rcases e3 with ⟨_, _, _, _, z⟩ | ⟨z, _⟩
    · cases z
    · refine ⟨xs, ys, hx1, hy1, ?_⟩
      rw [rx1.length, ry1.length]
      rcases z with z | z
      · subst z; exact .inl (List.getElem?_eq_none_iff.mp i1)
      · subst z; exact .inr (List.getElem?_eq_none_iff.mp i2)
  · obtain ⟨p, q, e1, e2, e3⟩ := nxZip_inv h
    have i1 : ds[i]? = p := Option.some.inj e1
    have i2 : es[i]? = q := Option.some.inj e2
    rcases e3 with ⟨x, y, rfl, rfl, z⟩ | ⟨_, z⟩
    · cases z
      obtain ⟨v, hv, rv⟩ := rx1.get i1
      obtain ⟨w, hw, rw'⟩ := ry1.get i2
      refine ⟨⟨xs, ys, v, w, hx1, hy1, hv, hw⟩, fun u H' hyl => ?_⟩
      obtain ⟨T, x', y', rfl, hT, rfl, f1, f2⟩ := hyl
      have g1 := f1 xs hx1
      have g2 := f2 ys hy1
      rw [hv] at g1; rw [hw] at g2
      cases g1; cases g2
      exact zip_new rs hT rv rw'
    · cases z
theorem di_zip {tg it a b : Expr} {ms : EM (List D)} (hK : X.K = G.K) (h : ∀ ta, PA X [a, b] ta → PI X tg it (RZ.iZipA X.K ta)) (ha : PA X [a, b] (tA G E ms)) : PI X tg it (tI G E (iZipM ms)) := by
  refine PI.imp (h _ ha) fun σ H R ⟨L, st, env, rs, re, p⟩ => ?_
  refine ⟨L, st, env, rs, re, (Pst.bind (m := ms env) p).mono fun ds st1 L1 H1 po1 rs1 q vs rv => ?_⟩
  split at q
  · cases rv with
    | cons h1 h2 => cases h2 with
      | cons h2 h3 =>
        cases h3
        obtain ⟨a, rfl, ha⟩ := loc_inv h1
        obtain ⟨b, rfl, hb⟩ := loc_inv h2
        obtain ⟨xs, hx⟩ := rs1.lst a (List.mem_of_getElem? ha)
        obtain ⟨ys, hy⟩ := rs1.lst b (List.mem_of_getElem? hb)
        refine ⟨a, b, xs, ys, rfl, .inl ⟨SqL.of hx, SqL.of hy, ?_⟩⟩
        rw [hK]
        exact q H1 L1 (Po.refl _ _) rs1 _ (it_zip ha hb)
  · cases rv with
    | cons h1 h2 => cases h2 with
      | cons h2 h3 =>
        cases h3
        obtain ⟨a, xs, rfl, hx, rxs⟩ := tup_inv h1
        obtain ⟨b, ys, rfl, hy, rys⟩ := tup_inv h2
        refine ⟨a, b, xs, ys, rfl, .inr ⟨by rw [hK]; exact hx, by rw [hK]; exact hy, ?_⟩⟩
        rw [hK]
        exact q H1 L1 (Po.refl _ _) rs1 _ (it_zipT rs1.lst hx rxs hy rys)
  · exact q.elim

theorem Pst.fromPo {α : Type} {r : R α} {k : α → Store → List Addr → Hp → Prop} (h : Pst G E L H r k) (p : Po L L' H H') : Pst G E L' H' r k := by
  cases r with
  | ok a st' => exact fun H2 L2 q rs => h H2 L2 (p.trans q) rs
  | exc c st' => exact fun H2 L2 q rs => h H2 L2 (p.trans q) rs
  | bad => exact h
/-! ### for -/
def forN (nx : Nx) (t : Tg) (b : SM) : Nat → Nat → SM := fun n => Nat.rec (fun _ _ => mbad) (fun _ ih i env st => match nx i st with
  | none => .bad
  | some none => .ok (.next env) st
  | some (some d) => match Tg.set t d env with
    | none => .bad
    | some env1 => mbind (b env1) (fun f => match f with
      | .next env' => ih (i + 1) env'
      | .cont env' => ih (i + 1) env'
      | .brk env' => mpure (.next env')
      | .ret d => mpure (.ret d)) st) n
def sFor (it : EM Nx) (t : Tg) (b : SM) : SM := fun env => mbind (it env) fun nx => forN nx t b FUEL 0 env
theorem forN_succ (nx : Nx) (t : Tg) (b : SM) (n i : Nat) (env : Env) (st : Store) : forN nx t b (n + 1) i env st = match nx i st with
  | none => .bad
  | some none => .ok (.next env) st
  | some (some d) => match Tg.set t d env with
    | none => .bad
    | some env1 => mbind (b env1) (fun f => match f with
      | .next env' => forN nx t b n (i + 1) env'
      | .cont env' => forN nx t b n (i + 1) env'
      | .brk env' => mpure (.next env')
      | .ret d => mpure (.ret d)) st := rfl
theorem ds_for {tg iter : Expr} {body : List Stmt} {mi : EM Nx} {t : Tg} {mb : SM} {pos : Pos} (hi : PI X tg iter (tI G E mi)) (hg : PG X tg (Tg.hs G.K t)) (hb : PSs X body (tS G E mb))
    (h : ∀ wi g tb, PI X tg iter wi → PG X tg g → PSs X body tb → PS X (.For tg iter body [] pos) (tFor wi g tb)) : PS X (.For tg iter body [] pos) (tS G E (sFor mi t mb)) := by
  refine PS.imp (h _ _ _ hi hg hb) fun Dn σ H ⟨L, st, env, rs, re, p⟩ => ?_
  refine ⟨L, st, env, rs, re, (Pst.bind (m := mi env) p).mono fun nx st1 L1 H1 po1 rs1 q J ij => ?_⟩
  refine ⟨fun i n σ H => ∃ L st env, Po L1 L H1 H ∧ Rs G H L st ∧ RpEnv G H L σ env ∧ Pst G E L H (forN nx t mb n i env st) fun f _ L' H' => Ends.on G Dn f L' H', ⟨FUEL, L1, st1, env, Po.refl _ _, rs1, re.po po1 rs.lst, q⟩, fun i n σ H ⟨L, st, env, po, rs, re, p⟩ => ?_⟩
  cases n with
  | zero => exact p.elim
  | succ n =>
    rw [forN_succ] at p
    obtain ⟨stop, go⟩ := ij L H st i po rs
    split at p
    · exact p.elim
    · rename_i e
      exact .inl ⟨stop e, p H L (Po.refl _ _) rs σ re⟩
    · rename_i d e
      obtain ⟨g1, g2⟩ := go d e
      cases es : Tg.set t d env with
      | none => rw [es] at p; exact p.elim
      | some env1 =>
        rw [es] at p
        refine .inr ⟨g1, fun σ' H' => ∃ L st env, Po L1 L H1 H' ∧ Rs G H' L st ∧ RpEnv G H' L σ' env ∧ Pst G E L H' (forN nx t mb n (i + 1) env st) fun f _ L' H' => Ends.on G Dn f L' H', fun σ' H' h => ⟨n, Nat.lt_succ_self n, h⟩, fun x H2 hy => ?_⟩
        obtain ⟨po2, rs2, rx⟩ := g2 x H2 hy
        refine Tg.ok rs2.lst t (re.po po2 rs.lst) rx es fun σ3 re3 _ => ?_
        refine ⟨L, st, env1, rs2, re3, ?_⟩
        have p2 : Pst G E L H2 (mbind (mb env1) _ st) fun f _ L' H' => Ends.on G Dn f L' H' := p.fromPo po2
        refine (Pst.bind (m := mb env1) p2).mono fun f st4 L4 H4 po4 rs4 q4 => ?_
        cases f with
        | next env' => exact fun σ' re' => ⟨L4, st4, env', po.trans (po2.trans po4), rs4, re', q4⟩
        | cont env' => exact fun σ' re' => ⟨L4, st4, env', po.trans (po2.trans po4), rs4, re', q4⟩
        | brk env' => exact q4 H4 L4 (Po.refl _ _) rs4
        | ret d => exact q4 H4 L4 (Po.refl _ _) rs4

/-! ### a comprehension with one clause -/
def lcN (nx : Nx) (t : Tg) (c : EM Bool) (e : EM D) (env : Env) : Nat → Nat → List D → M D := fun n => Nat.rec (fun _ _ => mbad) (fun _ ih i acc st => match nx i st with
  | none => .bad
  | some none => .ok (.loc st.length) (st ++ [acc])
  | some (some d) => match Tg.set t d env with
    | none => .bad
    | some env1 => mbind (mtot (c env1)) (fun b => if b then mbind (mtot (e env1)) (fun y => if acc.length < 16777216 then ih (i + 1) (acc ++ [y]) else mbad) else ih (i + 1) acc) st) n
theorem lcN_succ (nx : Nx) (t : Tg) (c : EM Bool) (e : EM D) (env : Env) (n i : Nat) (acc : List D) (st : Store) : lcN nx t c e env (n + 1) i acc st = match nx i st with
  | none => .bad
  | some none => .ok (.loc st.length) (st ++ [acc])
  | some (some d) => match Tg.set t d env with
    | none => .bad
    | some env1 => mbind (mtot (c env1)) (fun b => if b then mbind (mtot (e env1)) (fun y => if acc.length < 16777216 then lcN nx t c e env n (i + 1) (acc ++ [y]) else mbad) else lcN nx t c e env n (i + 1) acc) st := rfl
def wipeE (env : Env) : List Nat → Env
  | [] => env
  | v :: vs => (wipeE env vs).set v none
def eLc (it : EM Nx) (t : Tg) (c : EM Bool) (e : EM D) (vs : List Nat) : EM D := fun env => mbind (it env) fun nx => lcN nx t c e (wipeE env vs) FUEL 0 []
theorem RpEnv.wipe {σ : St} {env : Env} (h : RpEnv G H L σ env) : ∀ vs : List Nat, RpEnv G H L (_root_.L2.wipe σ vs) (wipeE env vs)
  | [] => h
  | v :: vs => by
    have ih := RpEnv.wipe h vs
    refine ⟨by show ((wipeE env vs).set v none).length = ((_root_.L2.wipe σ vs).set v none).length; rw [List.length_set, List.length_set]; exact ih.len, fun i d e => ?_⟩
    have e : ((wipeE env vs).set v none)[i]? = some (some d) := e
    by_cases hi : v = i
    · subst hi
      by_cases hl : v < (wipeE env vs).length
      · rw [List.getElem?_set_self hl] at e; cases e
      · rw [List.getElem?_eq_none (by rw [List.length_set]; omega)] at e; cases e
    · rw [List.getElem?_set_ne hi] at e
      show ∃ w, ((_root_.L2.wipe σ vs).set v none)[i]? = _ ∧ _
      rw [List.getElem?_set_ne hi]
      exact ih.at_ i d e
/-- a test in the block: no error -/
theorem mtot_k {α : Type} {m : M α} {k : α → Store → List Addr → Hp → Prop} {E' : XK} (h : Pst G E L H (mtot m st) k) : Pst G E' L H (m st) k := by
  unfold mtot at h
  cases e : m st with
  | ok a st1 => rw [e] at h; exact h
  | exc c st1 => rw [e] at h; exact h.elim
  | bad => rw [e] at h; exact h.elim
theorem SqT.updL {a D' : Addr} {xs ys zs : List V} (h : SqT G.K H a xs) (hD : H D' = some (.lst ys)) : SqT G.K (upd H D' (.lst zs)) a xs := by
  have ne : ∀ {o}, H a = some o → (∀ q, o ≠ .lst q) → a ≠ D' := fun {o} e nt z => by
    rw [z, hD] at e; cases e
    exact nt _ rfl
  rcases h with (h | ⟨o, h⟩) | h
  · exact .inl (.inl (by rw [upd_ne (ne h (fun q z => by cases z))]; exact h))
  · exact .inl (.inr ⟨o, by rw [upd_ne (ne h (fun q z => by cases z))]; exact h⟩)
  · exact .inr h
mutual
theorem Rp.updL {v : V} {d : D} {D' : Addr} {ys zs : List V} (h : Rp G H L v d) (hD : H D' = some (.lst ys)) : Rp G (upd H D' (.lst zs)) L v d := by
  cases h with
  | non => exact .non
  | bl b => exact .bl b
  | int i => exact .int i
  | str s => exact .str s
  | tup h1 h2 => exact .tup (SqT.updL h1 hD) (RpAll.updL h2 hD)
  | loc h1 => exact .loc h1
  | ty k => exact .ty k
  | fn k => exact .fn k
  | scr => exact .scr
  | exn c h =>
    have ne : 1000 ≤ c → G.ed ≠ D' := fun hc z => by
      have e := h hc
      rw [z, hD] at e
      cases e
    exact .exn c fun hc => (upd_ne (ne hc)).trans (h hc)
  | raw v => exact .raw v
theorem RpAll.updL {vs : List V} {ds : List D} {D' : Addr} {ys zs : List V} (h : RpAll G H L vs ds) (hD : H D' = some (.lst ys)) : RpAll G (upd H D' (.lst zs)) L vs ds := by
  cases h with
  | nil => exact .nil
  | cons h1 h2 => exact .cons (Rp.updL h1 hD) (RpAll.updL h2 hD)
end
theorem Rs.updL {D' : Addr} {ys zs : List V} (r : Rs G H L st) (hD : H D' = some (.lst ys)) (nD : D' ∉ L) (sc : ScrOk G (upd H D' (.lst zs)) L) : Rs G (upd H D' (.lst zs)) L st :=
  ⟨r.len, r.nd, fun n a ds h1 h2 => by
    obtain ⟨xs, e, q⟩ := r.at_ n a ds h1 h2
    exact ⟨xs, by rw [upd_ne (fun z => nD (by rw [← z]; exact List.mem_of_getElem? h1))]; exact e, q.updL hD⟩, fun q hq => by
    obtain ⟨ps, h1, h2, h3⟩ := r.tabs q hq
    have ne : ∀ {b o}, H b = some o → (∀ q, o ≠ .lst q) → b ≠ D' := fun {b o} e nt z => by
      rw [z, hD] at e; cases e
      exact nt _ rfl
    refine ⟨ps, by rw [upd_ne (ne h1 (fun q z => by cases z))]; exact h1, h2, fun pos cv hc => ?_⟩
    obtain ⟨c, e1, e2⟩ := h3 pos cv hc
    exact ⟨c, e1, by rw [upd_ne (ne e2 (fun z w => by unfold LamX.CodeO at w; cases w))]; exact e2⟩, sc⟩
theorem RpEnv.updL {σ : St} {env : Env} {D' : Addr} {ys zs : List V} (h : RpEnv G H L σ env) (hD : H D' = some (.lst ys)) : RpEnv G (upd H D' (.lst zs)) L σ env := ⟨h.len, fun i d e => by
  obtain ⟨v, e', r⟩ := h.at_ i d e
  exact ⟨v, e', r.updL hD⟩⟩
theorem Po.stayL {D' : Addr} {ys : List V} (p : Po L L' H H') (hD : H D' = some (.lst ys)) (nD : D' ∉ L) : H' D' = some (.lst ys) ∧ D' ∉ L' := by
  refine ⟨p.keep _ _ hD nD (fun ps z => by cases z), fun hm => ?_⟩
  obtain ⟨ps, e⟩ := p.new _ hm nD _ hD
  cases e
theorem wipe_wipe {σ : St} {vs : List Nat} : wipe (wipe σ vs) vs = wipe σ vs := by
  refine List.ext_getElem? fun j => ?_
  rw [wipe_get, wipe_length]
  by_cases hj : j ∈ vs
  · rw [if_pos hj, wipe_get, if_pos hj]
  · rw [if_neg hj]
mutual
theorem Rp.wide {v : V} {d : D} (h : Rp G H L v d) (p : L <+: L') : Rp G H L' v d := by
  cases h with
  | non => exact .non
  | bl b => exact .bl b
  | int i => exact .int i
  | str s => exact .str s
  | tup h1 h2 => exact .tup h1 (RpAll.wide h2 p)
  | loc h1 => exact .loc (pre_get p h1)
  | ty k => exact .ty k
  | fn k => exact .fn k
  | scr => exact .scr
  | exn c h => exact .exn c h
  | raw v => exact .raw v
theorem RpAll.wide {vs : List V} {ds : List D} (h : RpAll G H L vs ds) (p : L <+: L') : RpAll G H L' vs ds := by
  cases h with
  | nil => exact .nil
  | cons h1 h2 => exact .cons (Rp.wide h1 p) (RpAll.wide h2 p)
end
def cTrue : EM Bool := fun _ => mpure true
theorem dts_nil : PTs X [] (tT G E cTrue) := ⟨fun pins s σ H Q I ⟨L, st, env, rs, re, p⟩ => pts_nil.run pins s σ H Q I (p H L (Po.refl _ _) rs)⟩
theorem dts_one {c : Expr} {m : EM Bool} (h : PT X c (tT G E m)) : PTs X [c] (tT G E m) := pts_one h
theorem lc_k {J : It} {nx : Nx} {t : Tg} {mc : EM Bool} {me : EM D} {vs : List Nat} {σ : St} {env : Env} {k : D → Store → List Addr → Hp → Prop} {Q : VK} (hv : Tg.on vs t = true)
    (rs : Rs G H L st) (re : RpEnv G H L σ env) (ij : ItOk G L H J nx) (p : Pst G E L H (lcN nx t mc me (wipeE env vs) FUEL 0 [] st) k)
    (hk : ∀ d st' L' H', Po L L' H H' → Rs G H' L' st' → k d st' L' H' → ∀ v, Rp G H' L' v d → Q v H') :
    ∀ D', H D' = none → ∃ W : Nat → Nat → Hp → Prop, (∃ m, W 0 m (upd H D' (.lst []))) ∧ ∀ i m H, W i m H →
      (J.stop i H ∧ Q (.ref D') H) ∨ (J.go i H ∧ ∃ Nx' : Hp → Prop, (∀ H', Nx' H' → ∃ m', m' < m ∧ W (i + 1) m' H') ∧ ∀ x H', J.yld i H x H' → Tg.hs G.K t x (wipe σ vs) H' fun σ2 H2 => wipe σ2 vs = wipe σ vs ∧ tT G E0 mc σ2 H2 fun b H3 =>
        if b = true then tM G E0 me σ2 H3 fun y H4 => ∃ acc, H4 D' = some (.lst acc) ∧ acc.length < sizeLine ∧ Nx' (upd H4 D' (.lst (acc ++ [y]))) else Nx' H3) := by
  intro D' hD
  have nD0 := rs.free hD
  refine ⟨fun i n H1 => ∃ L1 st1 acc xs, Po L L1 H H1 ∧ Rs G H1 L1 st1 ∧ H1 D' = some (.lst xs) ∧ RpAll G H1 L1 xs acc ∧ D' ∉ L1 ∧ RpEnv G H1 L1 (wipe σ vs) (wipeE env vs) ∧ Pst G E L H (lcN nx t mc me (wipeE env vs) n i acc st1) k, ⟨FUEL, L, st, [], [], ?_, ?_, upd_same, .nil, nD0, ?_, p⟩, ?_⟩
  · exact Po.ext L fun b o e _ => new_keep hD b o e
  · exact ⟨rs.len, rs.nd, fun n a ds h1 h2 => by
      obtain ⟨xs, e, q⟩ := rs.at_ n a ds h1 h2
      exact ⟨xs, new_keep hD _ _ e, q.po (Po.ext L fun b o e _ => new_keep hD b o e) rs.lst⟩, rs.tabs.ext (new_keep hD), rs.scr.po (Po.ext L fun b o e _ => new_keep hD b o e)⟩
  · exact (re.wipe vs).po (Po.ext L fun b o e _ => new_keep hD b o e) rs.lst
  · intro i n H1 ⟨L1, st1, acc, xs, po1, rs1, hx, rxs, nD, re1, p⟩
    cases n with
    | zero => exact p.elim
    | succ n =>
      rw [lcN_succ] at p
      obtain ⟨stop, go⟩ := ij L1 H1 st1 i po1 rs1
      split at p
      · exact p.elim
      · rename_i e
        refine .inl ⟨stop e, ?_⟩
        have po2 : Po L (L1 ++ [D']) H H1 := ⟨po1.pre.trans (List.prefix_append _ _), po1.keep, fun b hb nb o ho => by
          rcases List.mem_append.mp hb with z | z
          · exact po1.new b z nb o ho
          · obtain rfl : b = D' := by simpa using z
            rw [hD] at ho; cases ho⟩
        have po3 : RpAll G H1 (L1 ++ [D']) xs acc := rxs.wide (List.prefix_append _ _)
        have rs2 : Rs G H1 (L1 ++ [D']) (st1 ++ [acc]) := by
          refine ⟨by simp [rs1.len], List.nodup_append.mpr ⟨rs1.nd, by simp, fun a ha b hb => ?_⟩, fun m a es h1 h2 => ?_, rs1.tabs, rs.scr.po po2⟩
          · obtain rfl : b = D' := by simpa using hb
            exact fun z => nD (by rw [← z]; exact ha)
          · by_cases hn : m < L1.length
            · rw [List.getElem?_append_left hn] at h1
              rw [List.getElem?_append_left (by rw [← rs1.len]; exact hn)] at h2
              obtain ⟨ys, e, q⟩ := rs1.at_ m a es h1 h2
              exact ⟨ys, e, q.wide (List.prefix_append _ _)⟩
            · have hn1 := (List.getElem?_eq_some_iff.mp h1).1
              have en : m = L1.length := by rw [List.length_append] at hn1; simp at hn1; omega
              subst en
              rw [List.getElem?_append_right (Nat.le_refl _)] at h1
              simp at h1
              subst h1
              rw [rs1.len, List.getElem?_append_right (Nat.le_refl _)] at h2
              simp at h2
              subst h2
              exact ⟨xs, hx, po3⟩
        exact hk _ _ _ _ po2 rs2 (p H1 _ po2 rs2) _ (.loc (by rw [← rs1.len, List.getElem?_append_right (Nat.le_refl _)]; simp))
      · rename_i d e
        obtain ⟨g1, g2⟩ := go d e
        cases es : Tg.set t d (wipeE env vs) with
        | none => rw [es] at p; exact p.elim
        | some env1 =>
          rw [es] at p
          refine .inr ⟨g1, fun H' => ∃ L1 st1 acc xs, Po L L1 H H' ∧ Rs G H' L1 st1 ∧ H' D' = some (.lst xs) ∧ RpAll G H' L1 xs acc ∧ D' ∉ L1 ∧ RpEnv G H' L1 (wipe σ vs) (wipeE env vs) ∧ Pst G E L H (lcN nx t mc me (wipeE env vs) n (i + 1) acc st1) k, fun H' h => ⟨n, Nat.lt_succ_self n, h⟩, fun x H2 hy => ?_⟩
          obtain ⟨po2, rs2, rx⟩ := g2 x H2 hy
          obtain ⟨hx2, nD2⟩ := po2.stayL hx nD
          refine Tg.ok rs2.lst t (re1.po po2 rs1.lst) rx es fun σ3 re3 w3 => ⟨by rw [w3 vs hv, wipe_wipe], ?_⟩
          refine ⟨L1, st1, env1, rs2, re3, ?_⟩
          have p : Pst G E L H (mbind (mtot (mc env1)) _ st1) k := p
          cases ec : mc env1 st1 with
          | exc c st3 => simp only [mbind, mtot, ec] at p; exact p.elim
          | bad => simp only [mbind, mtot, ec] at p; exact p.elim
          | ok b st3 =>
            intro H3 L3 po3 rs3
            have po13 := po2.trans po3
            obtain ⟨hx3, nD3⟩ := po3.stayL hx2 nD2
            simp only [mbind, mtot, ec] at p
            cases b with
            | false =>
              have p : Pst G E L H (lcN nx t mc me (wipeE env vs) n (i + 1) acc st3) k := p
              exact ⟨L3, st3, acc, xs, po1.trans po13, rs3, hx3, rxs.po po13 rs1.lst, nD3, re1.po po13 rs1.lst, p⟩
            | true =>
              show tM G E0 me σ3 H3 _
              refine ⟨L3, st3, env1, rs3, re3.po po3 rs2.lst, ?_⟩
              cases ee : me env1 st3 with
              | exc c st4 => simp only [if_true, mbind, mtot, ee] at p; exact p.elim
              | bad => simp only [if_true, mbind, mtot, ee] at p; exact p.elim
              | ok y st4 =>
                intro H4 L4 po4 rs4 v rv
                simp only [if_true, mbind, mtot, ee] at p
                obtain ⟨hx4, nD4⟩ := po4.stayL hx3 nD3
                have po14 := po13.trans po4
                have rxs4 := rxs.po po14 rs1.lst
                have po6 : Po L1 L4 H1 H4 → ∀ v, Po L L4 H (upd H4 D' (.lst (xs ++ [v]))) := fun po14 v =>
                  have po5 := po1.trans po14
                  ⟨po5.pre, fun b o ho nb nt => by rw [upd_ne (ne_of_none ho hD)]; exact po5.keep b o ho nb nt, po5.new⟩
                by_cases hl : acc.length < 16777216
                · rw [if_pos hl] at p
                  refine ⟨xs, hx4, by rw [sizeLine_eq, rxs.length]; exact hl, L4, st4, acc ++ [y], xs ++ [v], po6 po14 v, rs4.updL hx4 nD4 (rs.scr.po (po6 po14 v)), upd_same, (rxs4.app (.cons rv .nil)).updL hx4, nD4, (re1.po po14 rs1.lst).updL hx4, p⟩
                · rw [if_neg hl] at p; exact p.elim
end Mir
/-! MirE: comprehensions as a rule, the text's own defs by their mirrors. -/
namespace Mir
open PySem _root_.L2 PyProof.Rows
variable {H H' H1 H2 : Hp} {L L' L1 L2 : List Addr} {st st' : Store} {X : Cx} {G : Gx} {E : XK}

/-- [e for t in it if c] -/
theorem d_lc {elt tg iter : Expr} {ifs : List Expr} {scope : Scope} {pos : Pos} {own : List (Str × Nat)} {mi : EM Nx} {t : Tg} {mc : EM Bool} {me : EM D} (hv : Tg.on (own.map (·.2)) t = true) (hi : PI X tg iter (tI G E mi))
    (hg : ∀ (s : Shared) (H : Hp) (C : Addr) (cl : List (Str × Addr)) (fp : List Addr), PG (X.blk s H scope (compEnvC scope cl C X.env) fp) tg (Tg.hs G.K t))
    (ht : ∀ (s : Shared) (H : Hp) (C : Addr) (cl : List (Str × Addr)) (fp : List Addr), PTs (X.blk s H scope (compEnvC scope cl C X.env) fp) ifs (tT G E0 mc))
    (he : ∀ (s : Shared) (H : Hp) (C : Addr) (cl : List (Str × Addr)) (fp : List Addr), PE (X.blk s H scope (compEnvC scope cl C X.env) fp) elt (tM G E0 me))
    (h : ∀ wi g tt te, PI X tg iter wi → (∀ (s : Shared) (H : Hp) (C : Addr) (cl : List (Str × Addr)) (fp : List Addr), PG (X.blk s H scope (compEnvC scope cl C X.env) fp) tg g) →
      (∀ (s : Shared) (H : Hp) (C : Addr) (cl : List (Str × Addr)) (fp : List Addr), PTs (X.blk s H scope (compEnvC scope cl C X.env) fp) ifs tt) →
      (∀ (s : Shared) (H : Hp) (C : Addr) (cl : List (Str × Addr)) (fp : List Addr), PE (X.blk s H scope (compEnvC scope cl C X.env) fp) elt te) → PE X (.ListComp elt [⟨tg, iter, ifs, 0⟩] scope pos) (tLc wi g tt te (own.map (·.2)))) :
    PE X (.ListComp elt [⟨tg, iter, ifs, 0⟩] scope pos) (tM G E (eLc mi t mc me (own.map (·.2)))) := by
  refine PE.imp (h _ _ _ _ hi hg ht he) fun σ H Q ⟨L, st, env, rs, re, p⟩ => ?_
  refine ⟨L, st, env, rs, re, (Pst.bind (m := mi env) p).mono fun nx st1 L1 H1 po1 rs1 q J ij => ?_⟩
  exact lc_k hv rs1 (re.po po1 rs.lst) ij q fun d st' L' H' _ _ k => k
/-- y = [..] on one line -/
theorem ds_setLc {i : Nat} {y : Str} {py : Pos} {elt tg iter : Expr} {ifs : List Expr} {scope : Scope} {pos spos : Pos} {own : List (Str × Nat)} {mi : EM Nx} {t : Tg} {mc : EM Bool} {me : EM D} (hv : Tg.on (own.map (·.2)) t = true) (hi : PI X tg iter (tI G E mi))
    (hg : ∀ (s : Shared) (H : Hp) (C : Addr) (cl : List (Str × Addr)) (fp : List Addr), PG (X.blk s H scope (compEnvC scope cl C X.env) fp) tg (Tg.hs G.K t))
    (ht : ∀ (s : Shared) (H : Hp) (C : Addr) (cl : List (Str × Addr)) (fp : List Addr), PTs (X.blk s H scope (compEnvC scope cl C X.env) fp) ifs (tT G E0 mc))
    (he : ∀ (s : Shared) (H : Hp) (C : Addr) (cl : List (Str × Addr)) (fp : List Addr), PE (X.blk s H scope (compEnvC scope cl C X.env) fp) elt (tM G E0 me))
    (h : ∀ wi g tt te, PI X tg iter wi → (∀ (s : Shared) (H : Hp) (C : Addr) (cl : List (Str × Addr)) (fp : List Addr), PG (X.blk s H scope (compEnvC scope cl C X.env) fp) tg g) →
      (∀ (s : Shared) (H : Hp) (C : Addr) (cl : List (Str × Addr)) (fp : List Addr), PTs (X.blk s H scope (compEnvC scope cl C X.env) fp) ifs tt) →
      (∀ (s : Shared) (H : Hp) (C : Addr) (cl : List (Str × Addr)) (fp : List Addr), PE (X.blk s H scope (compEnvC scope cl C X.env) fp) elt te) →
      PS X (.Assign [.Name y py] (.ListComp elt [⟨tg, iter, ifs, 0⟩] scope pos) spos) (tAsg (tLc wi g tt te (own.map (·.2))) (gName i))) :
    PS X (.Assign [.Name y py] (.ListComp elt [⟨tg, iter, ifs, 0⟩] scope pos) spos) (tS G E (sAsg (eLc mi t mc me (own.map (·.2))) (.nm i))) := by
  refine PS.imp (h _ _ _ _ hi hg ht he) fun Dn σ H hh => ?_
  have a := asg_k hh
  obtain ⟨L, st, env, rs, re, p⟩ := a
  refine ⟨L, st, env, rs, re, (Pst.bind (m := mi env) p).mono fun nx st1 L1 H1 po1 rs1 q J ij => ?_⟩
  exact lc_k hv rs1 (re.po po1 rs.lst) ij q fun d st' L' H' _ _ k => k

/-! ### defs -/
def fnM (n N : Nat) (body : SM) : List D → M D := fun ds => if ds.length = n then mbind (body (ds.map some ++ List.replicate (N - n) none)) fun f => match f with
  | .next _ => mpure .non
  | .ret d => mpure d
  | _ => mbad else mbad
/-- what a def promises: its mirror -/
def spM (G : Gx) (n : Nat) (f : List D → M D) : Sp := fun vs H Q E => ∃ L st ds, ds.length = n ∧ Rs G H L st ∧ RpAll G H L vs ds ∧ Pst G E L H (f ds st) fun d _ L' H' => ∀ v, Rp G H' L' v d → Q v H'
theorem env_start {N : List Str} {n : Nat} {vs : List V} {ds : List D} (r : RpAll G H L vs ds) (hn : ds.length = n) : RpEnv G H L (_root_.L2.start N vs) (ds.map some ++ List.replicate (N.length - n) none) := by
  have hl := r.length
  refine ⟨by unfold _root_.L2.start; simp [hl, hn], fun i d e => ?_⟩
  by_cases hi : i < ds.length
  · rw [List.getElem?_append_left (by simpa using hi), List.getElem?_map] at e
    cases e1 : ds[i]? with
    | none => rw [e1] at e; cases e
    | some d' =>
      rw [e1] at e
      cases e
      obtain ⟨v, hv, rv⟩ := r.get e1
      refine ⟨v, ?_, rv⟩
      unfold _root_.L2.start
      rw [List.getElem?_append_left (by simp; omega), List.getElem?_map, hv]
      rfl
  · rw [List.getElem?_append_right (by simp; omega)] at e
    have := List.mem_of_getElem? e
    rw [List.mem_replicate] at this
    cases this.2
section
variable {P : Program} {w : World} {K : W.Frag} {mg : Str → Option Value} {base : Heap}
theorem fn_ok {x qual : Str} {sm : Stmt} {f : Addr} {fd : FuncData} {N ps : List Str} {k n : Nat} {body : SM} (F : Fun K x qual sm f fd) (S : FnScope N ps (defScope sm)) (hn : ps.length = n)
    (hb : ∀ (cdv : Value) (A : Around) (outer : List PySem.Env) (s : Shared) (H : Hp) (E : XK), Room k (A.deeper (envOfC qual (defScope sm) s.heap.objs.size f cdv)) →
      PSs (cxOf (L2N.CX P w) P w K mg base N qual (defScope sm) f cdv A outer s H E) (defBody sm) (tS G E body)) : FnOk P w K mg base (L2N.CX P w) (k + 1) f fd ps (spM G n (fnM n N.length body)) := by
  obtain ⟨oc, od, kV, doc, pm, an, cdv, ct, osl, rfl, lk, hcd⟩ := F.ex
  refine fn_of lk hcd S (fun vs H Q E h => ?_) fun A outer s H vs Q E hr h => ?_
  · obtain ⟨L, st, ds, hl, _, r, _⟩ := h
    rw [r.length, hl, hn]
  · obtain ⟨L, st, ds, hl, rs, r, p⟩ := h
    refine ⟨_, hb cdv A outer s H E hr, L, st, _, rs, env_start r hl, ?_⟩
    unfold fnM at p
    rw [if_pos hl] at p
    refine (Pst.bind (m := body _) p).mono fun f st1 L1 H1 po1 rs1 q => ?_
    cases f with
    | next env' => exact fun σ re => q H1 L1 (Po.refl _ _) rs1 .non .non
    | ret d => exact fun v rv => q H1 L1 (Po.refl _ _) rs1 v rv
    | brk env' => exact q.elim
    | cont env' => exact q.elim
/-- a def whose code object is known (it makes lambdas) -/
structure FunC (K : W.Frag) (x qual : Str) (sm : Stmt) (f c : Addr) (fd : FuncData) : Prop where
  ex : ∃ (oc : Value) (od : Option Addr) (kV doc pm : Value) (an : Option Addr) (ct : Value) (osl : Array (Option Value)),
    fd = PySem.W.fnOf x qual (defArgs sm) (defBody sm) (defScope sm) .none kV doc pm an (.ref c) ct ∧ K.lookup f = some ⟨oc, od, .func fd, osl⟩ ∧ PySem.W.codeIn K (.ref c) qual = true
  kp : PySem.W.keepIn K (.ref f) = true
theorem FunC.fn {K : W.Frag} {x qual : Str} {sm : Stmt} {f c : Addr} {fd : FuncData} (F : FunC K x qual sm f c fd) : Fun K x qual sm f fd := by
  obtain ⟨oc, od, kV, doc, pm, an, ct, osl, e, lk, hcd⟩ := F.ex
  exact ⟨⟨oc, od, kV, doc, pm, an, .ref c, ct, osl, e, lk, hcd⟩, F.kp⟩
theorem fn_okC {x qual : Str} {sm : Stmt} {f c : Addr} {fd : FuncData} {N ps : List Str} {k n : Nat} {body : SM} (F : FunC K x qual sm f c fd) (S : FnScope N ps (defScope sm)) (hn : ps.length = n)
    (hb : ∀ (A : Around) (outer : List PySem.Env) (s : Shared) (H : Hp) (E : XK), Room k (A.deeper (envOfC qual (defScope sm) s.heap.objs.size f (.ref c))) →
      PSs (cxOf (L2N.CX P w) P w K mg base N qual (defScope sm) f (.ref c) A outer s H E) (defBody sm) (tS G E body)) : FnOk P w K mg base (L2N.CX P w) (k + 1) f fd ps (spM G n (fnM n N.length body)) := by
  obtain ⟨oc, od, kV, doc, pm, an, ct, osl, rfl, lk, hcd⟩ := F.ex
  refine fn_of lk hcd S (fun vs H Q E h => ?_) fun A outer s H vs Q E hr h => ?_
  · obtain ⟨L, st, ds, hl, _, r, _⟩ := h
    rw [r.length, hl, hn]
  · obtain ⟨L, st, ds, hl, rs, r, p⟩ := h
    refine ⟨_, hb A outer s H E hr, L, st, _, rs, env_start r hl, ?_⟩
    unfold fnM at p
    rw [if_pos hl] at p
    refine (Pst.bind (m := body _) p).mono fun f st1 L1 H1 po1 rs1 q => ?_
    cases f with
    | next env' => exact fun σ re => q H1 L1 (Po.refl _ _) rs1 .non .non
    | ret d => exact fun v rv => q H1 L1 (Po.refl _ _) rs1 v rv
    | brk env' => exact q.elim
    | cont env' => exact q.elim
end
theorem takesN {X : Cx} : L2N.Takes X (fun cls d _ H => E0 cls d H) := fun _ _ x => by
  obtain ⟨_, _, _, _, _, _, _, _, _, _, _, _, _, _, _, _, z⟩ := x
  exact z.elim
/-! ### a callee sees only the lists that it is handed -/
mutual
def noLoc : D → Bool
  | .loc _ => false
  | .tup ds => noLocs ds
  | _ => true
def noLocs : List D → Bool
  | [] => true
  | d :: ds => noLoc d && noLocs ds
end
mutual
theorem Rp.noLoc {L' : List Addr} {v : V} {d : D} (h : Rp G H L v d) (n : Mir.noLoc d = true) : Rp G H L' v d := by
  cases h with
  | non => exact .non
  | bl b => exact .bl b
  | int i => exact .int i
  | str s => exact .str s
  | tup h1 h2 => exact .tup h1 (RpAll.noLocs h2 (by unfold Mir.noLoc at n; exact n))
  | loc h1 => unfold Mir.noLoc at n; cases n
  | ty k => exact .ty k
  | fn k => exact .fn k
  | scr => exact .scr
  | exn c h => exact .exn c h
  | raw v => exact .raw v
theorem RpAll.noLocs {L' : List Addr} {vs : List V} {ds : List D} (h : RpAll G H L vs ds) (n : Mir.noLocs ds = true) : RpAll G H L' vs ds := by
  cases h with
  | nil => exact .nil
  | cons h1 h2 =>
    unfold Mir.noLocs at n
    rw [Bool.and_eq_true] at n
    exact .cons (Rp.noLoc h1 n.1) (RpAll.noLocs h2 n.2)
end
/-- the arguments for a store of only the lists among them -/
def isoArgs (st : Store) : List D → List Nat → Store → Option (List D × List Nat × Store)
  | [], ns, s0 => some ([], ns, s0)
  | .loc n :: ds, ns, s0 => match st[n]? with
    | some es => if noLocs es && !(ns.contains n) then (match isoArgs st ds (ns ++ [n]) (s0 ++ [es]) with
        | some (r, ns', s') => some (.loc ns.length :: r, ns', s')
        | none => none) else none
    | none => none
  | d :: ds, ns, s0 => if noLoc d then (match isoArgs st ds ns s0 with
        | some (r, ns', s') => some (d :: r, ns', s')
        | none => none) else none
def wr (st1 : Store) : List Nat → Nat → Store → Store
  | [], _, st => st
  | n :: ns, i, st => match st1[i]? with
    | some es => wr st1 ns (i + 1) (st.set n es)
    | none => wr st1 ns (i + 1) st
def allFree (k : Nat) (st1 : Store) : Bool := (st1.take k).all noLocs
def iso (φ : List D → M D) (ds : List D) : M D := fun st => match isoArgs st ds [] [] with
  | some (ds', ns, s0) => (match φ ds' s0 with
    | .ok d st1 => if noLoc d && allFree ns.length st1 then .ok d (wr st1 ns 0 st) else φ ds st
    | .exc c st1 => if allFree ns.length st1 then .exc c (wr st1 ns 0 st) else .bad
    | .bad => .bad)
  | none => φ ds st
structure IsoInv (L : List Addr) (st : Store) (ns : List Nat) (s0 : Store) : Prop where
  nd : ns.Nodup
  len : s0.length = ns.length
  at_ : ∀ (i n : Nat), ns[i]? = some n → ∃ es a, st[n]? = some es ∧ L[n]? = some a ∧ s0[i]? = some es ∧ Mir.noLocs es = true
theorem isoArgs_spec {vs : List V} {ds ds' : List D} {ns ns' : List Nat} {s0 s' : Store} (rs : Rs G H L st) (r : RpAll G H L vs ds) (e : isoArgs st ds ns s0 = some (ds', ns', s')) (I : IsoInv L st ns s0) :
    IsoInv L st ns' s' ∧ ns <+: ns' ∧ RpAll G H (ns'.map fun n => L.getD n 0) vs ds' := by
  induction vs generalizing ds ds' ns s0 with
  | nil =>
    cases r
    unfold isoArgs at e
    cases e
    exact ⟨I, List.prefix_refl _, .nil⟩
  | cons v vs ih =>
    cases r with
    | @cons _ d _ ds h1 h2 =>
      have plain : ∀ (hn : Mir.noLoc d = true), (match isoArgs st ds ns s0 with
          | some (r, ns', s') => some (d :: r, ns', s')
          | none => none) = some (ds', ns', s') → IsoInv L st ns' s' ∧ ns <+: ns' ∧ RpAll G H (ns'.map fun n => L.getD n 0) (v :: vs) ds' := fun hn e => by
        split at e
        · rename_i r1 n1 s1 e1
          cases e
          obtain ⟨a, b, c⟩ := ih h2 e1 I
          exact ⟨a, b, .cons (Rp.noLoc h1 hn) c⟩
        · cases e
      cases d with
      | loc n =>
        unfold isoArgs at e
        split at e
        · rename_i es ees
          by_cases hc : (Mir.noLocs es && !(ns.contains n)) = true
          · rw [if_pos hc] at e
            rw [Bool.and_eq_true, Bool.not_eq_true'] at hc
            split at e
            · rename_i r1 n1 s1 e1
              cases e
              have hnn : n ∉ ns := fun hm => by
                have : ns.contains n = true := List.contains_iff_mem.mpr hm
                rw [this] at hc
                cases hc.2
              obtain ⟨a, rfl, ha⟩ : ∃ a, v = .ref a ∧ L[n]? = some a := by
                cases h1 with | loc h => exact ⟨_, rfl, h⟩
              obtain ⟨p, q, t⟩ := ih h2 e1 ⟨by
                rw [List.nodup_append]
                exact ⟨I.nd, by simp, fun x hx y hy => by
                  rw [List.mem_singleton] at hy
                  subst hy
                  exact fun z => hnn (z ▸ hx)⟩, by rw [List.length_append, List.length_append, I.len]; rfl, fun i m hm => by
                  by_cases hi : i < ns.length
                  · rw [List.getElem?_append_left hi] at hm
                    obtain ⟨es', a', x1, x2, x3, x4⟩ := I.at_ i m hm
                    exact ⟨es', a', x1, x2, by rw [List.getElem?_append_left (by rw [I.len]; exact hi)]; exact x3, x4⟩
                  · rw [List.getElem?_append_right (by omega)] at hm
                    have hz : i - ns.length = 0 := by
                      have := (List.getElem?_eq_some_iff.mp hm).1
                      simp at this
                      omega
                    rw [hz] at hm
                    cases hm
                    exact ⟨es, a, ees, ha, by rw [List.getElem?_append_right (by rw [I.len]; omega), I.len, hz]; rfl, hc.1⟩⟩
              have hp : ns'[ns.length]? = some n := pre_get q (by rw [List.getElem?_append_right (Nat.le_refl _), Nat.sub_self]; rfl)
              refine ⟨p, (List.prefix_append ns [n]).trans q, .cons (.loc ?_) t⟩
              rw [List.getElem?_map, hp]
              show some (L.getD n 0) = some a
              rw [List.getD_eq_getElem?_getD, ha]
              rfl
            · cases e
          · rw [if_neg hc] at e; cases e
        · cases e
      | _ =>
        unfold isoArgs at e
        split at e
        · rename_i hn
          exact plain hn e
        · cases e
theorem wr_len (st1 : Store) : ∀ (ns : List Nat) (i : Nat) (st : Store), (wr st1 ns i st).length = st.length
  | [], _, _ => rfl
  | n :: ns, i, st => by
    unfold wr
    split
    · rw [wr_len, List.length_set]
    · rw [wr_len]
theorem wr_ne (st1 : Store) : ∀ (ns : List Nat) (i : Nat) (st : Store) (m : Nat), m ∉ ns → (wr st1 ns i st)[m]? = st[m]?
  | [], _, _, _, _ => rfl
  | n :: ns, i, st, m, h => by
    have h1 : m ≠ n := fun z => h (z ▸ List.mem_cons_self)
    have h2 : m ∉ ns := fun z => h (List.mem_cons_of_mem _ z)
    unfold wr
    split
    · rw [wr_ne _ _ _ _ _ h2, List.getElem?_set_ne (Ne.symm h1)]
    · rw [wr_ne _ _ _ _ _ h2]
theorem wr_at (st1 : Store) : ∀ (ns : List Nat) (i : Nat) (st : Store) (j n : Nat) (es : List D), ns.Nodup → ns[j]? = some n → st1[i + j]? = some es → n < st.length → (wr st1 ns i st)[n]? = some es
  | [], _, _, _, _, _, _, h, _, _ => by simp at h
  | m :: ns, i, st, 0, n, es, nd, h, e, hl => by
    cases h
    have nd := List.nodup_cons.mp nd
    unfold wr
    rw [Nat.add_zero] at e
    rw [e]
    dsimp only
    rw [wr_ne _ _ _ _ _ nd.1, List.getElem?_set_self hl]
  | m :: ns, i, st, j + 1, n, es, nd, h, e, hl => by
    have nd := List.nodup_cons.mp nd
    unfold wr
    have h' : ns[j]? = some n := by simpa using h
    have e' : st1[i + 1 + j]? = some es := by rw [← e]; congr 1; omega
    split
    · exact wr_at st1 ns (i + 1) _ j n es nd.2 h' e' (by rw [List.length_set]; exact hl)
    · exact wr_at st1 ns (i + 1) _ j n es nd.2 h' e' hl
theorem iso_rs {ns : List Nat} {s0 st1 : Store} {L1 : List Addr} (rs : Rs G H L st) (I : IsoInv L st ns s0) : Rs G H (ns.map fun n => L.getD n 0) s0 ∧ ∀ (H1 : Hp) (L1 : List Addr) (st1 : Store), allFree ns.length st1 = true → Po (ns.map fun n => L.getD n 0) L1 H H1 → Rs G H1 L1 st1 → Po L L H H1 ∧ Rs G H1 L (wr st1 ns 0 st) := by
  have mem : ∀ n, n ∈ ns → ∃ a, L[n]? = some a ∧ L.getD n 0 = a := fun n hn => by
    obtain ⟨i, hi⟩ := List.getElem?_of_mem hn
    obtain ⟨es, a, x1, x2, _⟩ := I.at_ i n hi
    exact ⟨a, x2, by rw [List.getD_eq_getElem?_getD, x2]; rfl⟩
  have sub : ∀ b, b ∈ (ns.map fun n => L.getD n 0) → b ∈ L := fun b hb => by
    obtain ⟨n, hn, rfl⟩ := List.mem_map.mp hb
    obtain ⟨a, x, y⟩ := mem n hn
    rw [y]
    exact List.mem_of_getElem? x
  have get0 : ∀ i n, ns[i]? = some n → (ns.map fun n => L.getD n 0)[i]? = L[n]? := fun i n hi => by
    obtain ⟨a, x, y⟩ := mem n (List.mem_of_getElem? hi)
    rw [List.getElem?_map, hi, x]
    show some (L.getD n 0) = some a
    rw [y]
  refine ⟨⟨by rw [List.length_map, I.len], ?_, fun i a ds h1 h2 => ?_, rs.tabs, ?_⟩, fun H1 L1 st1 fr po rs1 => ?_⟩
  · rw [List.Nodup, List.pairwise_map]
    refine List.Pairwise.imp_of_mem (fun {x y} hx hy hne he => ?_) I.nd
    obtain ⟨a, x1, x2⟩ := mem x hx
    obtain ⟨b, y1, y2⟩ := mem y hy
    rw [x2, y2] at he
    subst he
    exact hne ((List.getElem?_inj (List.getElem?_eq_some_iff.mp x1).1 rs.nd).mp (x1.trans y1.symm))
  · have hi : i < ns.length := by
      have := (List.getElem?_eq_some_iff.mp h1).1
      rwa [List.length_map] at this
    obtain ⟨n, hn⟩ : ∃ n, ns[i]? = some n := ⟨_, List.getElem?_eq_getElem hi⟩
    obtain ⟨es, a', x1, x2, x3, x4⟩ := I.at_ i n hn
    rw [get0 i n hn] at h1
    rw [x3] at h2
    cases h2
    obtain ⟨xs, e, q⟩ := rs.at_ n a _ h1 x1
    exact ⟨xs, e, q.noLocs x4⟩
  · rcases rs.scr with ⟨h, n⟩ | h
    · exact .inl ⟨h, fun z => n (sub _ z)⟩
    · exact .inr h
  · have po' : Po L L H H1 := ⟨List.prefix_refl _, fun b o e n nt => po.keep b o e (fun z => n (sub b z)) nt, fun _ a b => absurd a b⟩
    refine ⟨po', ⟨by rw [wr_len]; exact rs.len, rs.nd, fun m a ds h1 h2 => ?_, rs1.tabs, rs.scr.po po'⟩⟩
    by_cases hm : m ∈ ns
    · obtain ⟨j, hj⟩ := List.getElem?_of_mem hm
      have hjl := (List.getElem?_eq_some_iff.mp hj).1
      obtain ⟨es, a', x1, x2, x3, x4⟩ := I.at_ j m hj
      rw [x2] at h1
      cases h1
      have hL1 : L1[j]? = some a := pre_get po.pre (by rw [get0 j m hj]; exact x2)
      have hl1 : j < st1.length := by rw [← rs1.len]; exact (List.getElem?_eq_some_iff.mp hL1).1
      have hs1 : st1[j]? = some st1[j] := List.getElem?_eq_getElem hl1
      have hw := wr_at st1 ns 0 st j m _ I.nd hj (by rw [Nat.zero_add]; exact hs1) (List.getElem?_eq_some_iff.mp x1).1
      rw [hw] at h2
      cases h2
      obtain ⟨xs, e, q⟩ := rs1.at_ j a _ hL1 hs1
      refine ⟨xs, e, q.noLocs ?_⟩
      unfold allFree at fr
      rw [List.all_eq_true] at fr
      exact fr _ (List.mem_of_getElem? (i := j) (by rw [List.getElem?_take, if_pos hjl]; exact hs1))
    · rw [wr_ne _ _ _ _ _ hm] at h2
      obtain ⟨xs, e, q⟩ := rs.at_ m a ds h1 h2
      refine ⟨xs, po.keep a _ e (fun z => ?_) (fun ps z => by cases z), q.po po' rs.lst⟩
      obtain ⟨n, hn, e2⟩ := List.mem_map.mp z
      obtain ⟨b, y1, y2⟩ := mem n hn
      have e2 : L.getD n 0 = a := e2
      rw [y2] at e2
      subst e2
      exact hm ((List.getElem?_inj (List.getElem?_eq_some_iff.mp y1).1 rs.nd).mp (y1.trans h1.symm) ▸ hn)
theorem iso_sp {n : Nat} {φ : List D → M D} {vs : List V} {ds : List D} {Q : VK} (hl : ∀ ds st, ds.length ≠ n → φ ds st = .bad) (rs : Rs G H L st) (r : RpAll G H L vs ds)
    (p : Pst G E L H (iso φ ds st) fun d _ L' H' => ∀ v, Rp G H' L' v d → Q v H') : spM G n φ vs H Q E := by
  have fall : Pst G E L H (φ ds st) (fun d _ L' H' => ∀ v, Rp G H' L' v d → Q v H') → spM G n φ vs H Q E := fun q => by
    refine ⟨L, st, ds, ?_, rs, r, q⟩
    by_cases hn : ds.length = n
    · exact hn
    · rw [hl ds st hn] at q; exact q.elim
  unfold iso at p
  split at p
  · rename_i ds' ns s0 e
    obtain ⟨I, _, r'⟩ := isoArgs_spec rs r e ⟨List.nodup_nil, rfl, fun i n h => by simp at h⟩
    obtain ⟨rs0, back⟩ := iso_rs (st1 := st) (L1 := L) rs I
    have hn : ∀ q : φ ds' s0 ≠ .bad, ds'.length = n := fun q => by
      by_cases hn : ds'.length = n
      · exact hn
      · exact absurd (hl ds' s0 hn) q
    split at p
    · rename_i d st1 e1
      by_cases hf : (Mir.noLoc d && allFree ns.length st1) = true
      · rw [if_pos hf] at p
        rw [Bool.and_eq_true] at hf
        refine ⟨_, s0, ds', hn (by rw [e1]; intro z; cases z), rs0, r', ?_⟩
        rw [e1]
        intro H1 L1 po1 rs1 v rv
        obtain ⟨po2, rs2⟩ := back H1 L1 st1 hf.2 po1 rs1
        exact p H1 L po2 rs2 v (rv.noLoc hf.1)
      · rw [if_neg hf] at p
        exact fall p
    · rename_i c st1 e1
      by_cases hf : allFree ns.length st1 = true
      · rw [if_pos hf] at p
        refine ⟨_, s0, ds', hn (by rw [e1]; intro z; cases z), rs0, r', ?_⟩
        rw [e1]
        intro H1 L1 po1 rs1
        obtain ⟨po2, rs2⟩ := back H1 L1 st1 hf po1 rs1
        exact p H1 L po2 rs2
      · rw [if_neg hf] at p; exact p.elim
    · exact p.elim
  · exact fall p
def eFn (n : Nat) (φ : List D → M D) (ms : EM (List D)) : EM D := fun env => mbind (ms env) (iso φ)
theorem d_fn {k n : Nat} {f : Addr} {fd : FuncData} {ps : List Str} {x : Str} {p pos : Pos} {e : Expr} {es : List Expr} {φ : List D → M D} {ms : EM (List D)} (F : FnOk X.prog X.w X.K X.mg X.base (L2N.CX X.prog X.w) k f fd ps (spM G n φ)) (tk : L2N.Takes X (fun cls d _ H => E cls d H))
    (ha : PA X (e :: es) (tA G E ms)) (hl : ∀ ds st, ds.length ≠ n → φ ds st = .bad)
    (h : ∀ t, (∀ σ, PassesAt (L2N.CX X.prog X.w) X σ ((fun _ => E) σ)) → PA X (e :: es) t → PE X (.Call (.Name x p) (e :: es) [] pos) (tCallS (spM G n φ) (fun _ => E) t)) :
    PE X (.Call (.Name x p) (e :: es) [] pos) (tM G E (eFn n φ ms)) := by
  refine PE.imp (h _ (fun σ => L2N.passAt tk σ) ha) fun σ H Q ⟨L, st, env, rs, re, p⟩ => ?_
  refine ⟨L, st, env, rs, re, (Pst.bind (m := ms env) p).mono fun ds st1 L1 H1 po1 rs1 q vs rvs => ?_⟩
  exact iso_sp hl rs1 rvs q
theorem fnM_len {n N : Nat} {body : SM} (ds : List D) (st : Store) (h : ds.length ≠ n) : fnM n N body ds st = .bad := by
  unfold fnM
  rw [if_neg h]
  rfl
end Mir
/-! MirF: comprehensions over a list where an exception is handled (its context being None). -/
namespace HotM
open PySem PySem.Spec PyProof.Rows HotX L2
section
variable {prog : Program} {w : World} {A : Around} {E : Value → Shared → Prop} {s : Shared}
/-- an iterator's end while x1 is handled: the StopIteration is made, its context is x1, and it is caught -/
theorem stop_raised {x1 : Addr} {h1 : Heap} {tk : Nat} {R : Fin → Shared → Prop} {Q : Option Value → Shared → Prop} (hot : HotAt A x1 h1)
    (hQ : ∀ h', (∀ b o, h1.get? b = some o → h'.get? b = some o) → Q none { s with heap := h', toks := tk }) :
    wpAny (model prog w) A.in1 (newExc (.type "StopIteration") [] >>= fun e => (raiseNew e : Sem Fin)) R
      (fun e s1 => wpAny (model prog w) A (do let b ← isInstance e (.type "StopIteration"); if b then pure none else throw e) Q E s1) { s with heap := h1, toks := tk } := by
  obtain ⟨hh, o1, vs1, g1, d1, c1⟩ := hot
  refine wpAny_bind ?_
  simp only [newExc, newTuple]
  refine wpAny_bind (wpAny_newObj_type ?_ (by size_fits))
  refine wpAny_bind (m := firstArgMember _ _) (wpAny_of_eq (a := Value.none) (by first | rfl | (simp only [firstArgMember]; rfl)) ?_)
  refine wpAny_newObj_type ?_ (by size_fits)
  refine raiseNew_hot ⟨hh, o1, vs1, Heap.get?_push_of_some _ (Heap.get?_push_of_some _ g1), d1, c1⟩ (Nat.ne_of_lt (Heap.lt_size (Heap.get?_push_of_some _ g1))) (Heap.get?_push_size _ rfl) rfl (by first | (simp; done) | (simp; omega) | (simp only [Array.size_append]; simp; omega)) ?_
  refine wpAny_bind (wpAny_isInstance (T := "StopIteration") (b := true) ⟨_, Heap.get?_update_self _ (Heap.get?_push_size _ rfl) rfl, rfl⟩ isSubtype_stop ?_)
  refine wpAny_pure (hQ _ fun b o e => ?_)
  rw [Heap.get?_update_other _ _ (Nat.ne_of_gt (Heap.lt_size (Heap.get?_push_of_some _ e)))]
  exact Heap.get?_push_of_some _ (Heap.get?_push_of_some _ e)
/-- an iterator's record is no exception's -/
theorem hot_ne {x1 it : Addr} {o : Obj} {a b : Value} (hot : HotAt A x1 s.heap) (ho : s.heap.get? it = some o) (hd : o.data = .fields #[a, b]) : x1 ≠ it := fun z => by
  obtain ⟨_, o1, vs1, g1, d1, c1⟩ := hot
  rw [z, ho] at g1
  cases g1
  rw [hd] at d1
  cases d1
  simp at c1
theorem list_end {it l x1 : Addr} {i : Nat} {items : Array Value} {Q : Option Value → Shared → Prop} (hot : HotAt A x1 s.heap)
    (hit : s.heap.IsListIter it l i) (hl : s.heap.IsList l items) (hx : items[i]? = none)
    (hQ : ∀ h', Heap.ExtBut it s.heap h' → Q none { s with heap := h' }) : wpAny (model prog w) A (pyNext (.ref it)) Q E s := by
  obtain ⟨o, ho, hc, hd⟩ := id hit
  have hne := hot_ne hot ho hd
  obtain ⟨ol, hol, _, nl, hdl⟩ := hl
  obtain ⟨hh, o1, vs1, g1, d1, c1⟩ := hot
  unfold pyNext
  refine wpAny_bind (wpAny_attempt (wpAny_callSpecial?_slot (name := Str.ofString "__next__") hit.typeIs slot_listiter_next (wpAny_call_entry slot_listiter_next hit.typeIs entry_listiter_next ?_ (args_listiter_next _))))
  show wpAny _ _ (field (.ref it) 0 >>= _) _ _ s
  refine wpAny_bind (wpAny_field ho hd (x := .ref l) rfl ?_)
  show wpAny _ _ (if (Value.ref l == Value.none) = true then _ else _) _ _ s
  rw [if_neg (show ¬ ((Value.ref l == Value.none) = true) from Bool.false_ne_true)]
  show wpAny _ _ (field (.ref it) 1 >>= _) _ _ s
  refine wpAny_bind (wpAny_field ho hd (x := .int i 0) rfl ?_)
  show wpAny _ _ (seqItems? (.ref l) >>= _) _ _ s
  refine wpAny_bind (wpAny_seqItems hol hdl ?_)
  simp only [Int.toNat_natCast, hx]
  refine wpAny_bind (wpAny_rule (wpAny_bind (wpAny_setField ho hd (by simp) ?_)))
  have sb := Heap.SameBut.update (h := s.heap) (a := it) (f := Obj.mapFields (·.setIfInBounds 0 Value.none))
  exact stop_raised (s := s) (tk := s.toks) ⟨hh, o1, vs1, (sb.2 x1 hne).trans g1, d1, c1⟩ fun h' k => hQ h' fun b o hb e => k b o ((sb.2 b hb).trans e)
theorem tuple_end {it t x1 : Addr} {i : Nat} {items : Array Value} {Q : Option Value → Shared → Prop} (hot : HotAt A x1 s.heap)
    (hit : IsTupIter s.heap it t i) (ht : IsTup s.heap t items) (hx : items[i]? = none)
    (hQ : ∀ h', Heap.ExtBut it s.heap h' → Q none { s with heap := h' }) : wpAny (model prog w) A (pyNext (.ref it)) Q E s := by
  obtain ⟨o, ho, hc, hd⟩ := id hit
  have hne := hot_ne hot ho hd
  obtain ⟨ol, hol, _, nl, hdl⟩ := ht
  obtain ⟨hh, o1, vs1, g1, d1, c1⟩ := hot
  unfold pyNext
  refine wpAny_bind (wpAny_attempt (wpAny_callSpecial?_slot (name := Str.ofString "__next__") hit.typeIs slot_tupleiter_next (wpAny_call_entry slot_tupleiter_next hit.typeIs entry_tupleiter_next ?_ (args_tupleiter_next _))))
  show wpAny _ _ (field (.ref it) 0 >>= _) _ _ s
  refine wpAny_bind (wpAny_field ho hd (x := .ref t) rfl ?_)
  show wpAny _ _ (if (Value.ref t == Value.none) = true then _ else _) _ _ s
  rw [if_neg (show ¬ ((Value.ref t == Value.none) = true) from Bool.false_ne_true)]
  show wpAny _ _ (field (.ref it) 1 >>= _) _ _ s
  refine wpAny_bind (wpAny_field ho hd (x := .int i 0) rfl ?_)
  show wpAny _ _ (seqItems? (.ref t) >>= _) _ _ s
  refine wpAny_bind (wpAny_seqItems hol hdl ?_)
  simp only [Int.toNat_natCast, hx]
  refine wpAny_bind (wpAny_rule (wpAny_bind (wpAny_setField ho hd (by simp) ?_)))
  have sb := Heap.SameBut.update (h := s.heap) (a := it) (f := Obj.mapFields (·.setIfInBounds 0 Value.none))
  exact stop_raised (s := s) (tk := s.toks) ⟨hh, o1, vs1, (sb.2 x1 hne).trans g1, d1, c1⟩ fun h' k => hQ h' fun b o hb e => k b o ((sb.2 b hb).trans e)
theorem HotAt_keep {x1 : Addr} {h h' : Heap} (hot : HotAt A x1 h) (k : ∀ o, h.get? x1 = some o → h'.get? x1 = some o) : HotAt A x1 h' := by
  obtain ⟨hh, o1, vs1, g1, d1, c1⟩ := hot
  exact ⟨hh, o1, vs1, k _ g1, d1, c1⟩
theorem unpack_hot {t x1 : Addr} {items : Array Value} {Q : List Value → Shared → Prop} (hot : HotAt A x1 s.heap) (ht : IsTup s.heap t items)
    (hQ : ∀ h', Heap.ExtBut s.heap.objs.size s.heap h' → Q items.toList { s with heap := h' }) : wpAny (model prog w) A (unpackItems (.ref t) items.size none) Q E s := by
  have hlt : t ≠ s.heap.objs.size := by
    obtain ⟨o, ho, _⟩ := ht
    exact Nat.ne_of_lt (Heap.lt_size ho)
  have hx1 : x1 ≠ s.heap.objs.size := by
    obtain ⟨_, o1, _, g1, _⟩ := hot
    exact Nat.ne_of_lt (Heap.lt_size g1)
  unfold unpackItems
  refine wpAny_bind ?_
  unfold notIterableAtAll
  refine wpAny_bind (wpAny_specialOf ht.typeIs slot_tuple_iter.lookup ?_)
  refine wpAny_pure ?_
  simp only [Bool.false_eq_true, if_false]
  refine wpAny_bind (wpAny_holding (iter_tuple ht ?_))
  refine wpAny_bind (wpAny_holding (draw_tuple hlt items.size 0 _ _ ⟨_, Heap.get?_push_size _ rfl, rfl, rfl⟩ (ht.push _) (by omega) fun h₁ hit₁ hs₁ => ?_))
  have hall : List.take items.size (List.drop 0 items.toList) = items.toList := by
    rw [List.drop_zero]
    exact List.take_of_length_le (by simp)
  rw [hall, if_neg (by simp)]
  have ht₁ : IsTup h₁ t items := (ht.push _).extBut hs₁.extBut hlt
  have hot1 : HotAt A x1 h₁ := HotAt_keep hot fun o e => hs₁.extBut x1 o hx1 (Heap.get?_push_of_some _ e)
  refine wpAny_bind (wpAny_holding (tuple_end hot1 hit₁ ht₁ (by simp) fun h₂ he₂ => ?_))
  simp only [Option.isSome_none, Bool.false_eq_true, if_false]
  exact wpAny_pure (hQ h₂ fun b o hb e => he₂ b o hb (hs₁.extBut b o hb (Heap.get?_push_of_some _ e)))
end
/-- wherever X runs, an exception is handled whose context is None -/
def HotX (X : Cx) : Prop := ∀ pins σ H s, Inv X pins σ H s → ∃ x1, HotAt X.A x1 s.heap
section
variable {X : Cx}
theorem pg_tupH {es : List Expr} {k : Nat} {pos : Pos} {t : TGs} {n : Nat} (hc : HotX X) (h : PGs X es t)
    (hn : (assignEach es X.env).length = n := by rfl) (hst : (assignEach es X.env).findIdx? (·.1) = none := by rfl) : PG X (.Tuple es k pos) (gTup X.K n t) := ⟨fun pins s σ H v u Q I r hw => by
  obtain ⟨a, xs, e1, hq, hl, hw⟩ := hw
  subst e1
  cases r
  obtain ⟨its, rv, ht, hz⟩ := I.tuple hq
  obtain ⟨x1, hot⟩ := hc pins σ H s I
  have hsz : (assignEach es X.env).length = its.toArray.size := by simp [hn, ← hl, rv.length]
  rw [PyProof.Rows.assign_Tuple]
  refine wpAny_bind (wpAny_standAt ?_)
  unfold unpack
  rw [hsz, hst]
  refine wpAny_bind (wpAny_holding (unpack_hot hot ht fun h' hx => ?_))
  have I1 : Inv X pins σ H { s with heap := h' } := I.kept (t' := s.toks) fun b o e => hx b o (Nat.ne_of_lt (Heap.lt_size e)) e
  exact h.run pins _ σ H xs _ Q I1 (by simpa using rv) hw⟩
/-- in an except suite -/
theorem hot_suite {a : Addr} {oe : Obj} {pn : List (Addr × Obj)} {cls : Value} {d : Option Addr} (hz : L2N.Zn cls d oe) (hf : ∃ vs, oe.data = .fields vs) : HotX (X.suite a ((a, oe) :: pn)) := fun pins σ H s I => by
  obtain ⟨vs, hv⟩ := hf
  exact ⟨a, rfl, oe, vs, (I.pin (a, oe) (List.mem_append_left _ List.mem_cons_self)).1, hv, hz.2.2 vs hv⟩
end
end HotM
namespace HotM
open PySem PySem.Spec PyProof.Rows HotX L2
section
variable {X : Cx}
/-- a block keeps what its maker's pins told -/
theorem hot_blk {p : Addr × Obj} {pins : List (Addr × Obj)} {σ : L2.St} {H : Hp} {s : Shared} {scope : Scope} {cenv : PySem.Env} {fp : List Addr} (hp : L2H.Hot1 X.A p) (hm : p ∈ X.pn) (I : Inv X pins σ H s) (hfp : ∀ b ∈ fp, FpOk X pins H b) : HotX (X.blk s H scope cenv fp) := fun pins' σ' H' s' I' => by
  obtain ⟨hh, vs, hv, hc⟩ := hp
  obtain ⟨g, n, nL, nF, _⟩ := I.pin p (List.mem_append_left _ hm)
  refine ⟨p.1, hh, p.2, vs, I'.base.keep p.1 p.2 g n (fun z => ?_) (fun z => ?_), hv, hc⟩
  · rcases List.mem_cons.mp (I.stkSub _ z) with e | e
    · exact nL e
    · exact nF e
  · obtain ⟨_, _, _, _, _, f5⟩ := hfp p.1 z
    exact f5 p (List.mem_append_left _ hm) rfl
theorem pe_lcH {elt tg iter : Expr} {ifs : List Expr} {scope : Scope} {own : List (Str × Nat)} {pos : Pos} {tl : TE} {g : TG} {tt : TT} {te : TE} {p : Addr × Obj} (hp : L2H.Hot1 X.A p) (hm : p ∈ X.pn) (hN : X.N.Nodup) (hl : PE X iter tl) (ok : BlkOk X.N X.env.scope scope own)
    (hg : ∀ (s : Shared) (H : Hp) (C : Addr) (cl : List (Str × Addr)) (fp : List Addr), HotX (X.blk s H scope (compEnvC scope cl C X.env) fp) → PG (X.blk s H scope (compEnvC scope cl C X.env) fp) tg g)
    (ht : ∀ (s : Shared) (H : Hp) (C : Addr) (cl : List (Str × Addr)) (fp : List Addr), HotX (X.blk s H scope (compEnvC scope cl C X.env) fp) → PTs (X.blk s H scope (compEnvC scope cl C X.env) fp) ifs tt)
    (he : ∀ (s : Shared) (H : Hp) (C : Addr) (cl : List (Str × Addr)) (fp : List Addr), HotX (X.blk s H scope (compEnvC scope cl C X.env) fp) → PE (X.blk s H scope (compEnvC scope cl C X.env) fp) elt te)
    (hs : ∀ x, foldedSetIterable iter X.env x = pure x := by intro _; rfl) : PE X (.ListComp elt [⟨tg, iter, ifs, 0⟩] scope pos) (tLc (iList X.K tl) g tt te (own.map (·.2))) := by
  refine ⟨fun pins s σ H Q I h => ?_⟩
  rw [eval_ListComp]
  have hfree : ∀ y ∈ scope.names, y.2 = .free → ∃ c, X.env.cells.lookup y.1 = some c := fun y hy e => (ok.free y hy e).elim (fun k => I.ok.has _ (.inl k)) fun k => I.ok.has _ (.inr k)
  refine wpAny_comprehension_free rfl hs (closure_ok hfree) ok.kind (fun y hy e => by rw [ok.uniq y hy, e]) (thn (hl.run pins s σ H _ I h) fun xv s1 hx => ?_)
  obtain ⟨x, H1, I1, rx, a, ex, ⟨xs, hq⟩, q⟩ := hx
  subst ex
  obtain rfl : xv = Value.ref a := rx
  obtain ⟨its, rv, pl, hz⟩ := I1.list hq
  refine wpAny_pyIter_list pl.isList ?_
  -- the iterator stands at it, the new list at D
  generalize hit0 : s1.heap.objs.size = it
  have I2 : Inv X pins σ H1 { s1 with heap := s1.heap.push { cls := .type "list_iterator", data := .fields #[.ref a, .int 0 0] } } := I1.kept (t' := s1.toks) fun b o e => Heap.get?_push_of_some _ e
  generalize hs2 : ({ s1 with heap := s1.heap.push { cls := .type "list_iterator", data := .fields #[.ref a, .int 0 0] } } : Shared) = s2 at I2 ⊢
  have h2 : s2.heap = s1.heap.push { cls := .type "list_iterator", data := .fields #[.ref a, .int 0 0] } := by rw [← hs2]
  have st2 : s2.heap.IsListIter it a 0 := by
    rw [h2, ← hit0]
    exact ⟨_, Heap.get?_push_size _ rfl, rfl, rfl⟩
  have itl : it < s2.heap.objs.size := by
    rw [h2, Heap.size_push, hit0]
    exact Nat.lt_succ_self _
  have f2 : ∀ b ∈ [it], FpOk X pins H1 b := fun b hb => by
    obtain rfl : b = it := by simpa using hb
    exact I1.fpOk (Nat.le_of_eq hit0) (I1.hok.fresh (Nat.le_of_eq hit0))
  have T := turn_list (P := X.prog) (w := X.w) (K := X.K) (tg := tg) a it
  refine wpAny_newObj_type (newEnv_comp ?_) (by show 0 ≤ sizeLine; decide)
  generalize hD0 : s2.heap.objs.size = D
  have hDn : H1 D = none := I2.hok.fresh (Nat.le_of_eq hD0)
  obtain ⟨W, ⟨m0, w0⟩, turn⟩ := q D hDn
  have hDit : D ≠ it := by rw [← hD0]; exact Nat.ne_of_gt itl
  generalize hs3 : ({ s2 with heap := s2.heap.push { cls := .type "list", data := .seq ([] : List Value).toArray } } : Shared) = s3
  have h3 : s3.heap = s2.heap.push { cls := .type "list", data := .seq ([] : List Value).toArray } := by rw [← hs3]
  have I3 : Inv X pins σ (upd H1 D (.lst [])) s3 := by
    rw [← hs3]
    refine I2.laid (t' := s2.toks) (fun b o e => Heap.get?_push_of_some _ e) (Nat.le_of_eq hD0) ⟨Nat.zero_le _, [], 0, .nil, ?_⟩
    rw [← hD0]
    exact Heap.get?_push_size _ rfl
  have f3 : ∀ b ∈ [it], FpOk X pins (upd H1 D (.lst [])) b ∧ b < s3.heap.objs.size := fun b hb => by
    have hb' := hb
    obtain rfl : b = it := by simpa using hb
    exact ⟨⟨by rw [upd_ne (Ne.symm hDit)]; exact (f2 b hb').1, (f2 b hb').2⟩, by rw [h3, Heap.size_push]; exact Nat.lt_succ_of_lt itl⟩
  have st3 : s3.heap.IsListIter it a 0 := T.keep _ _ _ st2 fun b _ o e => by rw [h3]; exact Heap.get?_push_of_some _ e
  have I4 := block_start I3 ok hN f3
  have hotB : ∀ (cenv : PySem.Env), HotX (X.blk s3 (upd H1 D (.lst [])) scope cenv [it]) := fun cenv => hot_blk hp hm I3 fun b hb => (f3 b hb).1
  have pg := hg s3 (upd H1 D (.lst [])) s3.heap.objs.size (cellsFrom (s3.heap.objs.size + 1) scope.names (cloFrom X.env.cells scope.names [])) [it] (hotB _)
  have pt := ht s3 (upd H1 D (.lst [])) s3.heap.objs.size (cellsFrom (s3.heap.objs.size + 1) scope.names (cloFrom X.env.cells scope.names [])) [it] (hotB _)
  have pe := he s3 (upd H1 D (.lst [])) s3.heap.objs.size (cellsFrom (s3.heap.objs.size + 1) scope.names (cloFrom X.env.cells scope.names [])) [it] (hotB _)
  show codeAny _ _ (.compStart (.ListComp elt [⟨tg, iter, ifs, 0⟩] scope pos) 0 (.ref it) (.ref D) (compEnvC scope (cellsFrom (s3.heap.objs.size + 1) scope.names (cloFrom X.env.cells scope.names [])) s3.heap.objs.size X.env))
    (compPost (model X.prog X.w) X.A X.xe none (EP X pins σ Q) (.ref D) s3.heap.objs.size) { s3 with heap := pushCells (s3.heap.push { cls := .type "dict", data := .dict #[] }) scope.names }
  have nfp : (upd H1 D (.lst [])) it = none := (f3 it (by simp)).1.1
  have hotC := hotB (compEnvC scope (cellsFrom (s3.heap.objs.size + 1) scope.names (cloFrom X.env.cells scope.names [])) s3.heap.objs.size X.env)
  generalize hce : compEnvC scope (cellsFrom (s3.heap.objs.size + 1) scope.names (cloFrom X.env.cells scope.names [])) s3.heap.objs.size X.env = ce at I4 pg pt pe hotC ⊢
  have cL : ce.locals = s3.heap.objs.size := by rw [← hce]; rfl
  generalize hH3 : upd H1 D (.lst []) = H3 at I3 I4 pg pt pe hotC w0 nfp f3
  generalize hs4 : ({ s3 with heap := pushCells (s3.heap.push { cls := .type "dict", data := .dict #[] }) scope.names } : Shared) = s4 at I4 ⊢
  have st4 : s4.heap.IsListIter it a 0 := T.keep _ _ _ st3 fun b _ o e => by
    rw [← hs4]
    exact pushCells_keeps _ _ _ _ (Heap.get?_push_of_some _ e)
  have stat : ∀ {σ' : L2.St} {H' : Hp} {s' : Shared}, Inv (X.blk s3 H3 scope ce [it]) [] σ' H' s' → H' it = none → ∀ b ∈ [it], FpOk (X.blk s3 H3 scope ce [it]) [] H' b := fun {σ' H' s'} I' hn b hb => by
    have hb' := hb
    obtain rfl : b = it := by simpa using hb
    exact ⟨hn, (I'.ok.exf b hb').1, I'.ok.exfs b hb', .inl hb', fun x c e => (I'.ok.exf b hb').2 x c e, fun q hq => absurd (show q ∈ ([] : List (Addr × Obj)) ++ [] from hq) (by simp)⟩
  have loop : codeAny (model X.prog X.w) X.A (.compLoop (.ListComp elt [⟨tg, iter, ifs, 0⟩] scope pos) 0 (.ref it) (.ref D) ce) (compPost (model X.prog X.w) X.A X.xe none (EP X pins σ Q) (.ref D) s3.heap.objs.size) s4 := by
    refine compLoop_any (fun n s' => ∃ i H', Inv (X.blk s3 H3 scope ce [it]) [] (wipe σ (own.map (·.2))) H' s' ∧ s'.heap.IsListIter it a i ∧ H' it = none ∧ W i n H') ?_ m0 ⟨0, H3, I4, st4, nfp, w0⟩
    rintro n s5 ⟨i, H5, I5, st5, n5, w5⟩
    obtain ⟨f0, f1, f2', f3', f4, f5⟩ := stat I5 n5 it (by simp)
    rcases turn i n H5 w5 with ⟨⟨ys, hys, hle⟩, qq⟩ | ⟨⟨ys, y, hys, hy⟩, Nx, hNx, step⟩
    · -- the end
      obtain ⟨its5, rv5, p5, _⟩ := I5.list hys
      have hl5 := rv5.length
      obtain ⟨x1, hot⟩ := hotC _ _ _ _ I5
      refine list_end hot st5 p5.isList (by simp; omega) fun h' eb => ?_
      have I6 : Inv (X.blk s3 H3 scope ce [it]) [] (wipe σ (own.map (·.2))) H5 { s5 with heap := h' } := I5.turned (t' := s5.toks) (fun b o hb e => eb b o hb e) f0 f1 f3' f4 f5
      have I7 : Inv X pins σ H5 { s5 with heap := h' } := I3.call' (ch := [it]) I6.os I6.base I6.hok I6.bare fun b hb => ⟨(f3 b hb).1.2.2.2.1, (f3 b hb).1.2.1, (f3 b hb).1.2.2.2.2.1, (f3 b hb).1.2.2.2.2.2⟩
      have nC : H5 s3.heap.objs.size = none := by
        have z : H5 ce.locals = none := I6.free
        rw [cL] at z
        exact z
      obtain ⟨m, hn, _⟩ := I6.loc
      have hn : ({ s5 with heap := h' } : Shared).heap.Ns ce.locals m := hn
      rw [cL] at hn
      have fc := I3.fpOk (H' := H5) (Nat.le_refl _) nC
      refine ⟨m, hn, fun h'' sb => ?_⟩
      obtain ⟨g0, g1, g2, g3, g4, g5⟩ := fc
      exact ⟨.ref D, H5, I7.turned (t' := s5.toks) (fun b o hb e => (sb.2 b hb).trans e) g0 g1 g3 g4 g5, rfl, qq⟩
    · -- an item
      obtain ⟨its5, rv5, p5, _⟩ := I5.list hys
      obtain ⟨u, hu, ru⟩ := rv5.get hy
      refine wpAny_pyNext_list_item st5 p5.isList (x := u) (by simpa using hu) fun h' st' sb => ?_
      have I6 : Inv (X.blk s3 H3 scope ce [it]) [] (wipe σ (own.map (·.2))) H5 { s5 with heap := h' } := I5.turned (t' := s5.toks) (fun b o hb e => (sb.2 b hb).trans e) f0 f1 f3' f4 f5
      obtain ⟨oI, eI, cI, dI⟩ := id st'
      refine go_of (s := { s5 with heap := h' }) eI cI dI (by decide) ?_
      generalize hs7 : ({ s5 with heap := h' } : Shared) = s7 at I6
      have st7 : s7.heap.IsListIter it a (i + 1) := by rw [← hs7]; exact st'
      have I7' := I6.pinned (stat I6 n5) (T.obj _ _ st7)
      have yl : (Itl X.K a).yld i H5 y H5 := ⟨rfl, fun zs hz => by rw [I5.list_inj hz hys]; exact hy⟩
      refine thnF (pg.run _ s7 _ H5 y u _ I7' ru (step y H5 yl)) fun _ s8 ⟨σ8, H8, I8, hw8, q8⟩ => ?_
      refine thnF (pt.run _ s8 σ8 H8 _ I8 q8) fun b s9 ⟨H9, I9, q9⟩ => ?_
      have fin : ∀ {s' : Shared} {H' : Hp}, Inv (X.blk s3 H3 scope ce [it]) ([] ++ pinsAt [it] s7.heap) σ8 H' s' → Nx H' → ∃ m, m < n ∧ ∃ i H', Inv (X.blk s3 H3 scope ce [it]) [] (wipe σ (own.map (·.2))) H' s' ∧ s'.heap.IsListIter it a i ∧ H' it = none ∧ W i m H' := fun {s' H'} I' nx => by
        obtain ⟨m', hm', w'⟩ := hNx H' nx
        have pin' : ∀ o, s7.heap.get? it = some o → s'.heap.get? it = some o ∧ H' it = none := fun o e => by
          have z := I'.pin (it, o) (List.mem_append_right _ (List.mem_append_right _ (mem_pinsAt (by simp) e)))
          exact ⟨z.1, z.2.1⟩
        have hlen : (wipe σ (own.map (·.2))).length = σ8.length := by rw [← hw8, wipe_length]
        refine ⟨m', hm', i + 1, H', (I'.unpinned (pins := [])).weak hlen (fun j v e => ?_), T.keep _ _ _ st7 fun b hb o e => ?_, ?_, w'⟩
        · rw [← hw8] at e
          exact (wipe_some e).1
        · obtain rfl : b = it := by simpa using hb
          exact (pin' o e).1
        · obtain ⟨o, e, _⟩ := T.obj _ _ st7 it (by simp)
          exact (pin' o e).2
      cases b with
      | false =>
        simp only [Bool.false_eq_true, if_false] at q9 ⊢
        exact fin I9 q9
      | true =>
        simp only [if_true] at q9 ⊢
        refine thnF (pe.run _ s9 σ8 H9 _ I9 q9) fun z s10 ⟨yv, H10, I10, r10, acc, hD10, hz10, nx⟩ => ?_
        exact app_ok (X := X.blk s3 H3 scope ce [it]) I10 hD10 hz10 r10 fun s11 I11 => fin I11 nx
  exact codeAny_compStart_list loop (T.self X.A 0 _ _ _ st4 loop)
end
end HotM
/-! MirG: a lambda without parameters handed to a def that tells the words of the error of its call. -/
namespace Mir
open PySem _root_.L2 PyProof.Rows
variable {H H' H1 H2 : Hp} {L L' L1 L2 : List Addr} {st st' : Store} {X : Cx} {G : Gx} {E : XK}
theorem Rs.ext (r : Rs G H L st) (h : ∀ b o, H b = some o → (∀ ps, o ≠ .tbl ps) → H' b = some o) (t : LamX.Tabs G.T H') : Rs G H' L st :=
  have po : Po L L H H' := Po.ext L h
  ⟨r.len, r.nd, fun n a ds h1 h2 => by
    obtain ⟨xs, e, q⟩ := r.at_ n a ds h1 h2
    exact ⟨xs, h _ _ e (fun ps z => by cases z), q.po po r.lst⟩, t, r.scr.po po⟩
theorem Rs.none (r : Rs G H L st) : Rs G H [] [] := ⟨rfl, List.nodup_nil, fun n a ds h => by simp at h, r.tabs, by
  rcases r.scr with ⟨h, _⟩ | h
  · exact .inl ⟨h, by simp⟩
  · exact .inr h⟩

/-! ### the lambda -/
/-- the context of a lambda's body -/
def lamN (X : Cx) (A : Around) (outer : List PySem.Env) (s : Shared) (H : Hp) (E : XK) (scope : Scope) (f c' : Addr) : Cx := (LamX.lamCx X A outer s H E scope f c').wish fun e s' =>
  wpAny (model X.prog X.w) (A.deeper (LamX.lamEnv X scope s.heap.objs.size f c')) (leaving (LamX.lamEnv X scope s.heap.objs.size f c') e) (fun _ s'' => L2N.CX X.prog X.w outer H s E e s'') (fun e' s'' => L2N.CX X.prog X.w outer H s E e' s'') s'
/-- the reading of the call of a lambda at f, its code object at c' -/
def tAct (f c' : Addr) (q : Str) (i : Nat) (tl : XK → Hp → VK → Prop) (W : WX) : TE := fun σ H Q => σ[i]? = some (some (.ref f)) ∧ H c' = some (LamX.CodeO c' q) ∧ tl (WE W σ) H Q
theorem act_lam {Ng : List Str} {qg : Str} {sg : Scope} {g f c' : Addr} {cdg pm ctv : Value} {params : Arguments} {body : Expr} {scope : Scope} {k i : Nat} {a : Str} {pn pins : List (Addr × Obj)} {σ : _root_.L2.St} {s : Shared} {xe : Value → Shared → Prop} {W : WX} {Eg : XK} {CXg : CXT} {tb : XK → TE} {p1 p2 : Pos}
    (I : Inv X pins σ H s) (Ls : LamX.LamS X.env.scope scope) (hf : s.heap.get? f = some (PySem.W.kla_obj "<lambda>" (X.env.qual ++ "<lambda>") params body scope (cloFrom X.env.cells scope.names []) pm c' ctv)) (hfn : H f = none) (hfr : f ∉ frs X.stack)
    (hbind : bindArgs (PySem.W.kla_fn "<lambda>" (X.env.qual ++ "<lambda>") params body scope (cloFrom X.env.cells scope.names []) pm (.ref c') ctv) ⟨[], []⟩ = pure [])
    (tk : L2N.Takes ((cxOf CXg X.prog X.w X.K X.mg X.base Ng qg sg g cdg X.A X.stack s H Eg).tr pn xe) W) (hr : Room (k + 1) (X.A.deeper (envOfC qg sg s.heap.objs.size g cdg)))
    (hbody : ∀ (A : Around) (outer : List PySem.Env) (s : Shared) (H : Hp) (E : XK), Room k (A.deeper (LamX.lamEnv X scope s.heap.objs.size f c')) → PE (lamN X A outer s H E scope f c') body (tb E))
    (hN : Ng[i]? = some a) (hv : Vis sg a) (hd : (a == ("__debug__" : Str)) = false) (hcd : (a == ("__classdict__" : Str)) = false) :
    PE ((cxOf CXg X.prog X.w X.K X.mg X.base Ng qg sg g cdg X.A X.stack s H Eg).tr pn xe) (.Call (.Name a p1) [] [] p2) (tAct f c' (X.env.qual ++ "<lambda>") i (fun E => tb E σ) W) := ⟨fun pz sz σz Hz Q Iz ⟨hs, hc, ht⟩ => by
  refine wpAny_Call_Name_kw (thn ((pe_var (pos := p1) (i := i) hN hv hd hcd).run pz sz σz Hz (fun v H1 => v = .ref f ∧ H1 = Hz) Iz ⟨.ref f, hs, rfl, rfl⟩) fun u s1 ⟨v, Hv, I1, r1, ev, eH⟩ => ?_)
  subst ev
  rw [eH] at I1
  obtain rfl : u = Value.ref f := r1
  have at1 := I1.base.keep f _ hf hfn hfr (fun z => nomatch (show f ∈ ([] : List Addr) from z))
  have un : Un (frs X.stack) [] H Hz s.heap s1.heap := I1.base
  obtain ⟨⟨oc, vs, t, hoc, hdc, hvc⟩, _, _⟩ := I1.hok c' _ hc
  refine PySem.W.callWith_F0 ⟨_, _, _, _, at1⟩ ?_
  have run : codeAny (model X.prog X.w) (X.A.deeper (envOfC qg sg s.heap.objs.size g cdg)) (.call (.ref f) ⟨[], []⟩) (CR (L2N.CX X.prog X.w) (envOfC qg sg s.heap.objs.size g cdg :: X.stack) X.prog X.w Hz s1 Q (WE W σz)) s1 := by
    refine PySem.W.kla_callFunE hr.depth at1 rfl Ls.co Ls.gen rfl ⟨c', oc, vs, t, rfl, hoc, hdc, hvc⟩ ?_
    rw [hbind]
    refine wpAny_pure (wpAny_newFunctionEnv (fun y hy => (Ls.own y hy).2) (fun y hy => absurd hy (by simp)) (fun h₁ hns hsb => ⟨I1.nolimit.fresh _ hsb, ?_⟩) Ls.kind)
    have kp : ∀ b o, s1.heap.get? b = some o → h₁.get? b = some o := fun b o e => hsb.extBut b o (Nat.ne_of_lt (Heap.lt_size e)) (Heap.get?_push_of_some _ e)
    have J0 := LamX.lam_start2 (E := WE W σz) (A := X.A.deeper (envOfC qg sg s.heap.objs.size g cdg)) (outer := envOfC qg sg s.heap.objs.size g cdg :: X.stack) (tk := s1.toks + ([] : List (Str × Value)).length) (f := f) (c' := c') I Ls I1.env0 hr.hd un hns kp
    have J : Inv (lamN X (X.A.deeper (envOfC qg sg s.heap.objs.size g cdg)) (envOfC qg sg s.heap.objs.size g cdg :: X.stack) s1 Hz (WE W σz) scope f c') [] σ Hz { s1 with heap := h₁, toks := s1.toks + ([] : List (Str × Value)).length } := J0.wish _
    refine PySem.W.kla_codeExpr (wpAny_mono ((hbody _ _ s1 Hz (WE W σz) (hr.deeper _)).run [] _ _ Hz Q J ht) (fun v s' hq => ?_) fun e s' hq => hq)
    obtain ⟨w', H', J', rv, q⟩ := hq
    exact ⟨w', H', J'.os, J'.bare, J'.base, J'.hok, rv, q⟩
  have hx : PassesAt (L2N.CX X.prog X.w) ((cxOf CXg X.prog X.w X.K X.mg X.base Ng qg sg g cdg X.A X.stack s H Eg).tr pn xe) σz (WE W σz) := L2N.passAt tk σz
  refine wpAny_call (codeAny_mono run fun r s' hq => ?_)
  cases r with
  | error e => exact hx pz Hz s1 e s' I1 hq
  | ok fl =>
    cases fl with
    | ret u => exact I1.after hq
    | next => exact False.elim hq
    | brk => exact False.elim hq
    | cont => exact False.elim hq⟩

/-- the dict of an error by its number -/
def LimD (c : Nat) (d : Option Addr) (H : Hp) : Prop := (c < 1000 ∧ d = none) ∨ (1000 ≤ c ∧ ∃ dd, d = some dd ∧ H dd = some (.xd [("limit", .int ((c : Int) - 1000))]))
def LimN (c : Nat) (d : Option Addr) : Prop := (c < 1000 ∧ d = none) ∨ (1000 ≤ c ∧ ∃ dd, d = some dd)
theorem LimD.n {c : Nat} {d : Option Addr} {H : Hp} (h : LimD c d H) : LimN c d := by
  rcases h with h | ⟨h, dd, e, _⟩
  · exact .inl h
  · exact .inr ⟨h, dd, e⟩
theorem ExE.imp {E E' : XK} {c : Nat} {H : Hp} (h : ∀ cls d H', E cls d H' → E' cls d H') (x : ExE G E c H) : ExE G E' c H := by
  unfold ExE at x ⊢
  by_cases hc : c < 1000
  · rw [if_pos hc] at x ⊢; exact h _ _ _ x
  · rw [if_neg hc] at x ⊢; exact fun d hd => h _ _ _ (x d hd)
theorem ExE.of {E : XK} {c : Nat} {H : Hp} (h : ∀ d, LimD c d H → E (.ref (G.cl c)) d H) : ExE G E c H := by
  unfold ExE
  by_cases hc : c < 1000
  · rw [if_pos hc]
    have := h none (.inl ⟨hc, rfl⟩)
    unfold Gx.cl at this
    rw [if_pos hc] at this
    exact this
  · rw [if_neg hc]
    intro d hd
    have := h (some d) (.inr ⟨by omega, d, rfl, hd⟩)
    unfold Gx.cl at this
    rw [if_neg hc] at this
    exact this
def eWish (G : Gx) (w : Nat → Option Str) (Q : VK) : XK := fun cls d H => ∃ c z, cls = .ref (G.cl c) ∧ LimD c d H ∧ w c = some z ∧ Rs G H [] [] ∧ ∀ H', (∀ b o, H b = some o → (∀ ps, o ≠ .tbl ps) → H' b = some o) → LamX.Tabs G.T H' → Q (.str z) H'
/-- the def that calls what it got and tells the word of its error -/
def Tells (P : Program) (w0 : World) (K : PySem.W.Frag) (mg : Str → Option Value) (base : Heap) (A : Around) (stk : List PySem.Env) (G : Gx) (Ng : List Str) (x : Str) (sg : Scope) (g : Addr) (cdg : Value) (bg : List Stmt) (a q : Str) (w : Nat → Option Str) (nn : Str) : Prop :=
  ∀ (f c' : Addr) (s : Shared) (H : Hp) (Q : VK) (tl : XK → Hp → VK → Prop),
    (∀ (W : WX) (pn : List (Addr × Obj)) (xe : Value → Shared → Prop) (p1 p2 : Pos), L2N.Takes ((cxOf CX0 P w0 K mg base Ng x sg g cdg A stk s H E0).tr pn xe) W →
      PE ((cxOf CX0 P w0 K mg base Ng x sg g cdg A stk s H E0).tr pn xe) (.Call (.Name a p1) [] [] p2) (tAct f c' q 0 tl W)) →
    (∀ E E' H Q, (∀ cls d H', E cls d H' → E' cls d H') → tl E H Q → tl E' H Q) →
    H c' = some (LamX.CodeO c' q) → tl (eWish G w Q) H (fun _ H' => Q (.str nn) H') →
    ∃ t, PSs (cxOf CX0 P w0 K mg base Ng x sg g cdg A stk s H E0).nox bg t ∧ t { nx := fun _ H' => Q .non H', rt := Q } (_root_.L2.start Ng [.ref f]) H
theorem tM_E {E E' : XK} {m : EM D} {σ : _root_.L2.St} {Q : VK} (h : ∀ cls d H', E cls d H' → E' cls d H') (t : tM G E m σ H Q) : tM G E' m σ H Q := by
  obtain ⟨L, st, env, rs, re, p⟩ := t
  refine ⟨L, st, env, rs, re, ?_⟩
  cases e : m env st with
  | ok d st1 => rw [e] at p; exact p
  | exc c st1 => rw [e] at p; exact fun H' L' po r => (p H' L' po r).imp h
  | bad => rw [e] at p; exact p
/-- the word of the error of m, or nn -/
def eErr (w : Nat → Option Str) (nn : Str) (m : EM D) : EM D := fun env st => match m env st with
  | .ok _ st1 => .ok (.str nn) st1
  | .exc c st1 => match w c with
    | some z => .ok (.str z) st1
    | none => .bad
  | .bad => .bad
theorem d_err {x a : Str} {g c P : Addr} {k : Nat} {pg : Arguments} {bg : List Stmt} {sg : Scope} {dV kV doc pm cdv ct oc : Value} {an od : Option Addr} {osl : Array (Option Value)} {Ng : List Str}
    {params : Arguments} {body : Expr} {scope : Scope} {m : EM D} {w : Nat → Option Str} {nn : Str} {p lpos pos : Pos} (hg : Gl X x) (hm : X.mg x = some (.ref g)) (hk : PySem.W.keepIn X.K (.ref g) = true)
    (lk : X.K.lookup g = some ⟨oc, od, .func (PySem.W.fnOf x x pg bg sg dV kV doc pm an cdv ct), osl⟩) (hcg : PySem.W.codeIn X.K cdv x = true) (hb : Binds X.K (PySem.W.fnOf x x pg bg sg dV kV doc pm an cdv ct) [a] []) (Sg : FnScope Ng [a] sg) (hNg : Ng[0]? = some a) (hva : Vis sg a)
    (hT : Tells X.prog X.w X.K X.mg X.base X.A X.stack G Ng x sg g cdv bg a (X.env.qual ++ "<lambda>") w nn)
    (TB : LamX.TabB X.base X.mg c P) (hcode : X.env.code = .ref c) (hmT : (P, X.env.qual ++ "<lambda>") ∈ G.T) (hu : ∀ p ∈ G.T, p.1 = P → p.2 = X.env.qual ++ "<lambda>") (hr : Room (k + 2) X.A) (Ls : LamX.LamS X.env.scope scope) (hdef : defaultsOf params X.env = ([], []))
    (hbind : ∀ (q : Str) (cl : List (Str × Addr)) (pm cv ctv : Value), bindArgs (PySem.W.kla_fn "<lambda>" q params body scope cl pm cv ctv) ⟨[], []⟩ = pure [])
    (hbody : ∀ (A : Around) (outer : List PySem.Env) (s : Shared) (H : Hp) (E : XK) (f c' : Addr), Room k (A.deeper (LamX.lamEnv X scope s.heap.objs.size f c')) → PE (lamN X A outer s H E scope f c') body (tM G E m))
    (hdb : (x == ("__debug__" : Str)) = false := by decide) (hd : (a == ("__debug__" : Str)) = false := by decide) (hcd : (a == ("__classdict__" : Str)) = false := by decide) :
    PE X (.Call (.Name x p) [.Lambda params body scope lpos] [] pos) (tM G E (eErr w nn m)) := ⟨fun pins s σ H Q I ⟨L, st, env, rs, re, q⟩ => by
  refine wpAny_Call_Name_kw (ld_glob I hg hm ?_ hdb)
  refine PySem.W.callWith_K (h₀ := X.base) I.ok.mod.kin hk ?_ (by rfl) (by rfl)
  show wpAny _ _ (spliced ((false, eval (.Lambda params body scope lpos) X.env) :: backTo pos (starEach [] X.env))) _ _ s
  refine Calls.spliced_cons (LamX.lam_make2 I TB hcode hmT hu rs.tabs hdef (Ls.has I.ok) fun f c' pm' ctv HL s' I1 eN T1 hf hfn hfr hco => ?_)
  refine Calls.spliced_nil ⟨I1.kIn, ?_⟩
  have eN' : ∀ b o, H b = some o → (∀ ps, o ≠ .tbl ps) → HL b = some o := eN
  have rs1 := rs.ext eN' T1
  have re1 := re.po (Po.ext L eN') rs.lst
  have run : codeAny (model X.prog X.w) X.A (.call (.ref g) ⟨[.ref f], []⟩) (CR CX0 X.stack X.prog X.w HL s' Q E0) s' := by
    refine LamX.run_ofS (N := Ng) (ps := [a]) (us := [.ref f]) (vs := [.ref f]) lk hcg Sg hr I1.env0 (hb s' [.ref f] I1.kIn rfl) (.cons rfl .nil) rfl fun hr' => ?_
    obtain ⟨t', ht', hq'⟩ := hT f c' s' HL Q (fun E H' Q' => tM G E m σ H' Q') (fun W pn xe p1 p2 tk => act_lam (i := 0) (tb := fun E => tM G E m) I1 Ls hf hfn hfr (hbind _ _ _ _ _) tk hr' (fun A outer s H E hr2 => hbody A outer s H E f c' hr2) hNg hva hd hcd) (fun E E' H Q h t => tM_E h t) hco (by
      refine ⟨L, st, env, rs1, re1, ?_⟩
      have q : Pst G E L H (eErr w nn m env st) _ := q
      unfold eErr at q
      cases e : m env st with
      | bad => rw [e] at q; exact q.elim
      | ok d st1 =>
        rw [e] at q
        exact fun H2 L2 po2 rs2 v rv => q H2 L2 ((Po.ext L eN').trans po2) rs2 _ (.str nn)
      | exc c st1 =>
        rw [e] at q
        intro H2 L2 po2 rs2
        cases ew : w c with
        | none =>
          dsimp only at q
          rw [ew] at q
          exact q.elim
        | some z =>
          dsimp only at q
          rw [ew] at q
          refine ExE.of fun dd hd => ⟨c, z, rfl, hd, ew, rs2.none, fun H3 e3 t3 => ?_⟩
          exact q H3 L2 (((Po.ext L eN').trans po2).trans (Po.ext L2 e3)) (rs2.ext e3 t3) _ (.str z))
    exact ⟨t', ht'.nox, hq'⟩
  refine wpAny_call (codeAny_mono run fun r s2 hq => ?_)
  cases r with
  | error e => exact (show False from hq).elim
  | ok fl =>
    cases fl with
    | ret u => exact I1.after hq
    | next => exact False.elim hq
    | brk => exact False.elim hq
    | cont => exact False.elim hq⟩

/-! ### try: call() / except X as e: suite / return 'none' -/
theorem tells_of {P : Program} {w0 : World} {K : PySem.W.Frag} {mg : Str → Option Value} {base : Heap} {A : Around} {stk : List PySem.Env} {Ng : List Str} {x xe n a q : Str} {sg : Scope} {g CS : Addr} {cdg : Value} {ie j : Nat} {b₀ : Stmt} {suite : List Stmt} {w : Nat → Option Str} {nn : Str} {ms : Nat → SM} {p1 p2 p3 p4 p5 p6 p7 p8 : Pos}
    (hN : Ng.Nodup) (hi : Ng[ie]? = some n) (hln : sg.names.lookup n = some .local) (hge : sg.names.lookup xe = some .globalImplicit) (hme : mg xe = some (.ref CS)) (hde : (xe == ("__debug__" : Str)) = false) (h0 : ∀ f : Addr, (_root_.L2.start Ng [V.ref f])[0]? = some (some (V.ref f)))
    (hlen : ∀ f : Addr, (_root_.L2.start Ng [V.ref f]).length = Ng.length) (hie : ie < Ng.length)
    (hex : ∀ c z, w c = some z → PySem.W.exmOne K (.ref (G.cl c)) (.ref CS) = some true)
    (hsu : ∀ (f : Addr) (s : Shared) (H : Hp) (a0 : Addr) (oe : Obj) (c : Nat) (z : Str) (d : Option Addr) (pn : List (Addr × Obj)), w c = some z → LimN c d → L2N.Zn (.ref (G.cl c)) d oe → (∃ vs, oe.data = .fields vs) →
      PSs ((cxOf CX0 P w0 K mg base Ng x sg g cdg A stk s H E0).nox.suite a0 ((a0, oe) :: pn)) (b₀ :: suite) (tS { G with ea := a0, ed := d.getD 0 } E0 (ms c)))
    (hms : ∀ (c : Nat) (z : Str), w c = some z → ∃ st, ms c ((List.replicate Ng.length none).set ie (some (.exn c))) [] = .ok (.ret (.str z)) st) :
    Tells P w0 K mg base A stk G Ng x sg g cdg [.Try [.Expr (.Call (.Name a p1) [] [] p2) p3] [.ExceptHandler (some (.Name xe p4)) (some n) (b₀ :: suite) p5] [] [] p6, .Return (some (.Constant (.str nn) j p7)) p8] a q w nn := by
  intro f c' s H Q tl act mono hco h
  have hgl : Gl (cxOf CX0 P w0 K mg base Ng x sg g cdg A stk s H E0).nox xe := hge
  have tk0 : L2N.Takes (cxOf CX0 P w0 K mg base Ng x sg g cdg A stk s H E0).nox (fun _ _ _ _ => False) := fun _ _ xx => by
    obtain ⟨_, _, _, _, _, _, _, _, _, _, _, _, _, _, _, _, z⟩ := xx
    exact z.elim
  refine ⟨_, pss_cons (L2N.ps_try_as (X := (cxOf CX0 P w0 K mg base Ng x sg g cdg A stk s H E0).nox) (c := .ref CS) (i := ie)
      (tb := fun W => tDrop (tAct f c' q 0 tl W)) (ts := fun a0 cls d Dn σ H1 => ∃ c z, cls = .ref (G.cl c) ∧ LimN c d ∧ w c = some z ∧ tS { G with ea := a0, ed := d.getD 0 } E0 (ms c) Dn σ H1)
      rfl rfl hN hi hln ⟨hgl, hde, .inl hme⟩ tk0 (fun W pn xe' tk _ => pss_one (ps_expr (act W pn xe' p1 p2 tk))) fun a0 oe cls d pn hz hv => ?_) (pss_one (ps_ret pe_str)), ?_⟩
  · refine ⟨fun pins s1 σ H1 Dn I hh => ?_⟩
    obtain ⟨c, z, ec, ed, ew, hh⟩ := hh
    subst ec
    exact (hsu f s H a0 oe c z d pn ew ed hz hv).run pins s1 σ H1 Dn I hh
  · refine ⟨h0 f, hco, mono _ _ _ _ (fun cls d H1 hw => ?_) h⟩
    obtain ⟨c, z, ec, ed, ew, rs, k⟩ := hw
    subst ec
    have hdd : 1000 ≤ c → H1 (d.getD 0) = some (.xd [("limit", .int ((c : Int) - 1000))]) := fun hc => by
      rcases ed with ⟨h, _⟩ | ⟨_, dd, e, h⟩
      · omega
      · rw [e]; exact h
    refine ⟨true, hex c z ew, fun _ a0 ha0 => ⟨c, z, rfl, ed.n, ew, [], [], (List.replicate Ng.length none).set ie (some (.exn c)), ⟨rs.len, rs.nd, fun n a ds h => by simp at h, rs.tabs, rs.scr⟩, ⟨?_, fun i d e => ?_⟩, ?_⟩, fun z => by cases z⟩
    · rw [List.length_set, List.length_set, List.length_replicate]
      exact (hlen f).symm
    · by_cases hii : i = ie
      · subst hii
        rw [List.getElem?_set_self (by rw [List.length_replicate]; exact hie)] at e
        cases e
        exact ⟨.ref a0, List.getElem?_set_self (by rw [hlen]; exact hie), .exn c hdd⟩
      · rw [List.getElem?_set_ne (Ne.symm hii)] at e
        have := List.mem_of_getElem? e
        rw [List.mem_replicate] at this
        cases this.2
    · obtain ⟨st, e⟩ := hms c z ew
      rw [e]
      intro H2 L2 po rs2 v rv
      cases rv
      exact k H2 (fun b o ho nt => po.keep b o ho (by simp) nt) rs2.tabs
end Mir
/-! MirH: what an except suite says of its error; join; three names at once; the law's end. -/
namespace Mir
open PySem _root_.L2 PyProof.Rows
variable {H H' H1 H2 : Hp} {L L' L1 L2 : List Addr} {st st' : Store} {X : Cx} {G : Gx} {E : XK}
/-- isinstance(e, C), e the exception that is handled -/
def eIsE (c0 i : Nat) (b : Bool) : EM D := fun env st => match env[i]? with
  | some (some (.exn c)) => if c = c0 then .ok (.bl b) st else .bad
  | _ => .bad
section
open PySem.W
variable {prog : Program} {w : World} {A : Around} {Ex : Value → Shared → Prop} {s : Shared} {K : Frag} {x D : Addr} {ox : Obj} {od : Option Obj}
/-- what an error answers to __class__, be its dict made or not -/
theorem errClass {Q : Option Value → Shared → Prop} (C : ExcC K D) (X : K.In s.heap) (I : InstAt s.heap x ox D od) (h : Q (some (.ref D)) { s with toks := s.toks + 1 }) : wpAny (model prog w) A (getAttr? (.ref x) "__class__") Q Ex s := by
  have hf : findObj K D od "__class__" = some (.bind (.builtin "getset_descriptor.__get__") (.builtin "object.__class__")) := by
    obtain ⟨cd, hc, _⟩ := any_some C.hd
    unfold findObj
    rw [hc, Option.bind_some, C.ha, Option.bind_some]
    simp [C.hn, C.ht]
  have hga := C.hg
  have hgt := C.hk
  obtain ⟨hp, g, d, t, os⟩ := s
  have L0 := I.type (M := model prog w)
  have L1 := looks_findIn (M := model prog w) X hga
  have L2 := looks_findIn (M := model prog w) X hgt
  have L3 := looks_find (M := model prog w) X I hf
  have sub : Looks (model prog w) hp (isInstance (.ref x) (.type "BaseException")) true := L0.andThen (looks_subIn X C.hs)
  have hx0 : (false && onTheHeap (Value.builtin "BaseException.__getattribute__")) = false := rfl
  have hx2 : (Value.builtin "BaseException.__getattribute__" == Value.builtin "object.__getattribute__") = false := by decide +kernel
  have hx1 : (onTheHeap (Value.ref D) && Value.builtin "BaseException.__getattribute__" == Value.builtin "object.__getattribute__") = false := by rw [hx2]; rfl
  unfold getAttr? getAttrBy? getAttrBy
  refine wpAny_bind (wpAny_mkText (wpAny_bind (wpAny_attempt (wpAny_holding (wpAny_bind (L0.at (wpAny_bind (L1.at ?_))))))))
  show wpAny _ _ (if (onTheHeap (Value.ref D) && Value.builtin "BaseException.__getattribute__" == Value.builtin "object.__getattribute__") = true then _ else _) _ _ _
  rw [hx1, if_neg Bool.false_ne_true]
  unfold getAttrByItsOwn hookBefore
  refine wpAny_bind ?_
  rw [if_pos (show onTheHeap (Value.ref D) = true from rfl)]
  refine L2.at ?_
  refine wpAny_bind (wpAny_attempt (wpAny_holding ?_))
  unfold callGetattribute
  rw [hx0, if_neg Bool.false_ne_true]
  unfold boundAndCalled
  rw [PySem.F.excAttr_ValueError.ga.bind (.ref x)]
  refine wpAny_bind (wpAny_pure ?_)
  show wpAny _ _ (call (.builtin "BaseException.__getattribute__") [.ref x, .str "__class__" t]) _ _ _
  refine wpAny_call (PySem.codeAny_call_builtin PySem.F.excAttr_ValueError.ga.plain PySem.F.entry_bexc_ga ?_)
  refine @check_slot (model prog w) _ _ ⟨hp, g, d, t + 1, os⟩ "BaseException.__getattribute__" "BaseException" "__getattribute__" (.ref x) [.str "__class__" t] [] _ (by decide +kernel) (by decide +kernel) sub (PySem.F.args_bexc_ga (.ref x) (.str "__class__" t)) ?_
  unfold Builtin.«object.__getattribute__»
  refine wpAny_bind (wpAny_of_eq (a := ((Value.ref x : Value), [Value.str "__class__" t])) (by first | rfl | (simp only [slotArgs]; rfl)) ?_)
  refine wpAny_bind (wpAny_pure (wpAny_bind (L0.at (wpAny_bind (L3.at ?_)))))
  show wpAny _ _ (holding [Value.builtin "object.__class__"] (call (.builtin "getset_descriptor.__get__") [.builtin "object.__class__", .ref x, .ref D]) >>= ret) _ _ _
  refine wpAny_bind (wpAny_holding (wpAny_call (class_get (s := ⟨hp, g, d, t + 1, os⟩) (ox := ox) (od := od) X I C.hm ?_)))
  refine wpAny_pure ?_
  show wpAny _ _ (handedOut (.ref D)) _ _ _
  rw [handedOut_of (v := .ref D) rfl]
  first
    | exact wpAny_pure (wpAny_pure h)
    | exact wpAny_pure h
    | exact wpAny_pure (wpAny_bind (wpAny_pure (wpAny_pure h)))
theorem errKit (C : ExcC K D) : KitX K (.ref x) (.ref D) (fun h => InstAt h x ox D od) where
  ty := fun _ _ _ I => I.type
  it := fun M h X _ => by
    obtain ⟨cd, hc, _⟩ := any_some C.hd
    unfold clsIn at hc
    split at hc
    · rename_i ho
      intro A' Q' E' s' k q
      unfold isType loadHead
      exact wpAny_bind (wpAny_loadPart (k _ _ (X _ _ ho)) (wpAny_pure q))
    · cases hc
  ne := fun h tp dd its n sl X htp => by
    obtain ⟨cd, hc, _⟩ := any_some C.hd
    refine Bool.eq_false_iff.mpr fun q => ?_
    have e : D = tp := Value.ref.inj (beq_iff_eq.mp q)
    subst e
    unfold clsIn at hc
    split at hc
    · rename_i ho
      cases (X _ _ ho).symm.trans htp
    · cases hc
  ca := fun X I k => errClass C X I k
end
/-- isinstance(e, c), e the exception that the suite holds, its dict at d -/
def rIsD (K : PySem.W.Frag) (D a : Addr) (d : Option Addr) : List V → Hp → VK → Prop := fun xs H Q => (∀ dd, d = some dd → ∃ fs, H dd = some (.xd fs)) ∧ ∃ (c : V) (cv : Value) (b : Bool), xs = [.ref a, c] ∧ (∀ u, RelV c u → u = cv) ∧ PySem.W.kitOne K (.ref D) cv = some b ∧ Q (.bl b) H
theorem call_isD {X : Cx} {a D : Addr} {d : Option Addr} {oe : Obj} {pn : List (Addr × Obj)} (C : ExcC X.K D) (hz : Zc (.ref D) d oe) (hf : ∃ vs, oe.data = .fields vs) : CallR (X.suite a ((a, oe) :: pn)) (.builtin "isinstance") (rIsD X.K D a d) := by
  intro pins s σ H xs us Q I r h
  obtain ⟨hd, c, cv, b, rfl, hcv, e, q⟩ := h
  cases r with
  | cons rx rr =>
    cases rr with
    | cons rt rr =>
      cases rr
      cases rx
      have ec := hcv _ rt
      subst ec
      obtain ⟨hget, _⟩ := I.pin (a, oe) (List.mem_append.mpr (.inl List.mem_cons_self))
      obtain ⟨vs, hv⟩ := hf
      have J : ∃ od, PySem.W.InstAt s.heap a oe D od := by
        cases d with
        | none =>
          obtain ⟨oc, od, oda, osl⟩ := oe
          obtain ⟨h1, h2⟩ := hz
          dsimp only at h1 h2 hv
          subst h1 h2 hv
          exact ⟨none, hget, rfl, rfl, trivial⟩
        | some dd =>
          obtain ⟨fs, ea⟩ := hd dd rfl
          have hx : ObjOk X.prog X.w H s.heap dd (.xd fs) := I.hok dd _ ea
          obtain ⟨mA, hns, hr⟩ := hx
          obtain ⟨od, ho, hl⟩ := lookIn_ns hns
          exact ⟨some od, hget, hz.1, by unfold PySem.W.notCls; rw [hv] <;> rfl, by rw [hz.2]; exact ho⟩
      obtain ⟨od, J⟩ := J
      exact PySem.W.kia_one (errKit C) I.kIn J e (fun z => nomatch z) fun tk => ⟨.bl b, H, I.kept (t' := tk) fun _ _ z => z, rfl, q⟩
theorem d_isE {Y : Cx} {a0 C D' : Addr} {d : Option Addr} {c0 i : Nat} {b : Bool} {e1 e2 : Expr} {p pos : Pos} (hea : G.ea = a0) (hed : G.ed = d.getD 0) (hn : LimN c0 d) (hg : Gl Y "isinstance") (hm : Y.mg "isinstance" = none) (hc : CallR Y (.builtin "isinstance") (rIsD G.K D' a0 d)) (h1 : PE Y e1 (tVar i)) (h2 : PE Y e2 (tC (.ref C)))
    (hk : PySem.W.kitOne G.K (.ref D') (.ref C) = some b)
    (h : ∀ t, PA Y [e1, e2] t → PE Y (.Call (.Name "isinstance" p) [e1, e2] [] pos) (tCB (rIsD G.K D' a0 d) t)) (s1 : starEach [e1, e2] Y.env = (false, eval e1 Y.env) :: starEach [e2] Y.env := by rfl) (s2 : starEach [e2] Y.env = (false, eval e2 Y.env) :: starEach [] Y.env := by rfl) :
    PE Y (.Call (.Name "isinstance" p) [e1, e2] [] pos) (tM G E (eIsE c0 i b)) := by
  refine PE.imp (h _ (pa_cons h1 (pa_cons h2 pa_nil s2) s1)) fun σ H Q ⟨L, st, env, rs, re, q⟩ => ?_
  unfold eIsE at q
  split at q
  · rename_i c e
    by_cases hac : c = c0
    · rw [if_pos hac] at q
      obtain ⟨v, hv, rv⟩ := re.at_ _ _ e
      subst hac
      cases rv with
      | exn _ hx =>
        rw [hea] at hv
        refine ⟨_, hv, fun dd hdd => ?_, _, .ref C, b, rfl, fun u hu => hu, hk, q H L (Po.refl _ _) rs _ (.bl b)⟩
        rcases hn with ⟨_, e0⟩ | ⟨h1, dd', e1⟩
        · rw [hdd] at e0; cases e0
        · have := hx h1
          rw [hed, hdd] at this
          exact ⟨_, this⟩
    · rw [if_neg hac] at q; exact q.elim
  · exact q.elim
theorem kit_one {K : PySem.W.Frag} {D C : Addr} {b : Bool} (h1 : PySem.W.isClsIn K C = true) (h2 : PySem.W.typeIn K (.ref C) = some (.type "type")) (h3 : PySem.W.subIn K (.ref D) (.ref C) = some b) (h4 : D = C → b = true) : PySem.W.kitOne K (.ref D) (.ref C) = some b := by
  unfold PySem.W.kitOne
  by_cases e : D = C
  · subst e
    rw [if_pos (by simp), h4 rfl]
  · rw [if_neg (by simpa using e)]
    have h1' : (PySem.W.clsIn K C).isSome = true := h1
    show (if ((PySem.W.clsIn K C).isSome && PySem.W.typeIn K (.ref C) == some (.type "type")) = true then PySem.W.subIn K (.ref D) (.ref C) else none) = some b
    rw [h1', h2, if_pos (by rfl)]
    exact h3
/-- sep.join(list of texts) -/
def textsOf : List D → Option (List Str)
  | [] => some []
  | .str s :: ds => match textsOf ds with
    | some r => some (s :: r)
    | none => none
  | _ :: _ => none
theorem textsOf_spec {vs : List V} {ds : List D} {ys : List Str} (r : RpAll G H L vs ds) (e : textsOf ds = some ys) : vs = ys.map V.str := by
  induction vs generalizing ds ys with
  | nil => cases r; cases e; rfl
  | cons v vs ih =>
    cases r with
    | cons h1 h2 =>
      unfold textsOf at e
      split at e
      · rename_i heq; cases heq
      · rename_i c ds' heq
        cases heq
        split at e
        · rename_i k ek
          cases e
          cases h1
          rw [ih h2 ek]
          rfl
        · cases e
      · cases e
def gJoin (a : Str) (y : D) : O := fun st => match y with
  | .loc n => match st[n]? with
    | some ds => match textsOf ds with
      | some ys => if (ys.map (·.length)).sum + ys.length * a.length ≤ 16777216 then some (.str (Txt.join a ys), st) else none
      | none => none
    | none => none
  | _ => none
theorem d_join {o e : Expr} {a : Str} {me : EM D} {apos pos : Pos} (ho : PE X o (tC (.str a))) (he : PE X e (tM G E me))
    (h : ∀ to te, PE X o to → PE X e te → PE X (.Call (.Attribute o "join" apos) [e] [] pos) (tM1 (fun x xs H Q => ∃ a p, ∃ ys : List Str, x = .str a ∧ xs = [.ref p] ∧ (SqL X.K H p (ys.map V.str) ∨ SqT X.K H p (ys.map V.str)) ∧ (ys.map (·.length)).sum + ys.length * a.length ≤ 16777216 ∧ Q (.str (Txt.join a ys)) H) to te)) :
    PE X (.Call (.Attribute o "join" apos) [e] [] pos) (tM G E (eUn (gJoin a) me)) := by
  refine PE.imp (h _ _ ho he) fun σ H Q ⟨L, st, env, rs, re, p⟩ => ?_
  refine ⟨⟨a, rfl⟩, L, st, env, rs, re, (Pst.bind (m := me env) p).mono fun dy st2 L2 H2 po2 rs2 q2 y ry => ?_⟩
  obtain ⟨d, st3, e3, q3⟩ := lift_k (α := Unit) q2
  unfold gJoin at e3
  split at e3
  · rename_i n
    split at e3
    · rename_i ds eds
      split at e3
      · rename_i ys eys
        by_cases hl : (ys.map (·.length)).sum + ys.length * a.length ≤ 16777216
        · rw [if_pos hl] at e3
          cases e3
          obtain ⟨b, rfl, hb⟩ := loc_inv ry
          obtain ⟨xs, hx, rxs⟩ := rs2.get hb eds
          rw [textsOf_spec rxs eys] at hx
          exact ⟨a, b, ys, rfl, rfl, .inl (SqL.of hx), hl, q3 H2 L2 (Po.refl _ _) rs2 _ (.str _)⟩
        · rw [if_neg hl] at e3; cases e3
      · cases e3
    · cases e3
  · cases e3
/-- a comprehension over a list in an except suite -/
def iOfL (m : EM D) : EM Nx := fun env => mbind (m env) fun d => match d with
  | .loc n => mpure (nxLoc n)
  | _ => mbad
theorem d_lcH {elt tg iter : Expr} {ifs : List Expr} {scope : Scope} {pos : Pos} {own : List (Str × Nat)} {ml : EM D} {t : Tg} {mc : EM Bool} {me : EM D} (hK : X.K = G.K) (hv : Tg.on (own.map (·.2)) t = true) (hl : PE X iter (tM G E ml))
    (hg : ∀ (s : Shared) (H : Hp) (C : Addr) (cl : List (Str × Addr)) (fp : List Addr), HotM.HotX (X.blk s H scope (compEnvC scope cl C X.env) fp) → PG (X.blk s H scope (compEnvC scope cl C X.env) fp) tg (Tg.hs G.K t))
    (ht : ∀ (s : Shared) (H : Hp) (C : Addr) (cl : List (Str × Addr)) (fp : List Addr), HotM.HotX (X.blk s H scope (compEnvC scope cl C X.env) fp) → PTs (X.blk s H scope (compEnvC scope cl C X.env) fp) ifs (tT G E0 mc))
    (he : ∀ (s : Shared) (H : Hp) (C : Addr) (cl : List (Str × Addr)) (fp : List Addr), HotM.HotX (X.blk s H scope (compEnvC scope cl C X.env) fp) → PE (X.blk s H scope (compEnvC scope cl C X.env) fp) elt (tM G E0 me))
    (h : ∀ tl g tt te, PE X iter tl → (∀ (s : Shared) (H : Hp) (C : Addr) (cl : List (Str × Addr)) (fp : List Addr), HotM.HotX (X.blk s H scope (compEnvC scope cl C X.env) fp) → PG (X.blk s H scope (compEnvC scope cl C X.env) fp) tg g) →
      (∀ (s : Shared) (H : Hp) (C : Addr) (cl : List (Str × Addr)) (fp : List Addr), HotM.HotX (X.blk s H scope (compEnvC scope cl C X.env) fp) → PTs (X.blk s H scope (compEnvC scope cl C X.env) fp) ifs tt) →
      (∀ (s : Shared) (H : Hp) (C : Addr) (cl : List (Str × Addr)) (fp : List Addr), HotM.HotX (X.blk s H scope (compEnvC scope cl C X.env) fp) → PE (X.blk s H scope (compEnvC scope cl C X.env) fp) elt te) → PE X (.ListComp elt [⟨tg, iter, ifs, 0⟩] scope pos) (tLc (iList X.K tl) g tt te (own.map (·.2)))) :
    PE X (.ListComp elt [⟨tg, iter, ifs, 0⟩] scope pos) (tM G E (eLc (iOfL ml) t mc me (own.map (·.2)))) := by
  refine PE.imp (h _ _ _ _ hl hg ht he) fun σ H Q ⟨L, st, env, rs, re, p⟩ => ?_
  have p := Pst.bind (m := ml env) (Pst.bind (m := iOfL ml env) p)
  refine ⟨L, st, env, rs, re, p.mono fun d st1 L1 H1 po1 rs1 q v rv => ?_⟩
  cases d with
  | loc n =>
    obtain ⟨a, rfl, ha⟩ := loc_inv rv
    obtain ⟨ys, hy⟩ := rs1.lst a (List.mem_of_getElem? ha)
    refine ⟨a, rfl, ⟨ys, SqL.of hy⟩, ?_⟩
    rw [hK]
    exact lc_k hv rs1 (re.po po1 rs.lst) (it_loc ha) (q H1 L1 (Po.refl _ _) rs1) fun d st' L' H' _ _ k => k
  | _ => exact q.elim
theorem dg_tupH {es : List Expr} {ts : Tgs} {k : Nat} {pos : Pos} (hK : X.K = G.K) (h : PGs X es (Tgs.hs G.K ts)) (hp : ∀ t, PGs X es t → PG X (.Tuple es k pos) (gTup X.K ts.len t)) : PG X (.Tuple es k pos) (Tg.hs G.K (.tp ts)) := dg_tup hK h hp
/-- a, b, c = x, y, z by plain names -/
def sPar3 (i j l : Nat) (ms : EM (List D)) : SM := fun env => mbind (ms env) fun ds => match ds with
  | [a, b, c] => mpure (.next (((env.set i (some a)).set j (some b)).set l (some c)))
  | _ => mbad
theorem par3_k {i j l : Nat} {ms : EM (List D)} {Dn : Ends} {σ : _root_.L2.St} (h : tS G E (sPar3 i j l ms) Dn σ H) : tPar3 i j l (tA G E ms) Dn σ H := by
  obtain ⟨L, st, env, rs, re, p⟩ := h
  refine ⟨L, st, env, rs, re, (Pst.bind (m := ms env) p).mono fun ds st1 L1 H1 po1 rs1 q vs rv => ?_⟩
  split at q
  · rename_i a b c
    cases rv with
    | cons h1 h2 => cases h2 with
      | cons h2 h3 => cases h3 with
        | cons h3 h4 =>
          cases h4
          exact ⟨_, _, _, rfl, q H1 L1 (Po.refl _ _) rs1 _ ((((re.po po1 rs.lst).set h1 i).set h2 j).set h3 l)⟩
  · exact q.elim
end Mir
/-! MirI: the end of a law row: the law's own mirror gives True for every script. -/
namespace Mir
open PySem _root_.L2 PyProof.Rows PySem.W
/-- the tables of the defs that make lambdas -/
def TabFact (K : Frag) (h : Heap) (c P : Addr) : Prop := CodeHd h c P ∧ h.get? P = some { cls := .none, data := .fields #[] }
theorem walkM {l : OpenLaw} {n k : Nat} {q : Program} {loose : List Str} {XP : (Str → Option Value) → Heap → Prop} {YP : World → Heap → Prop} {d : DefRec} {K : Params → Frag} {CX : World → CXT} {x : Str}
    (hn : l.most = some n) (hn2 : n ≤ sizeLine) (hdf : d.params.defaults = []) (hr : Room k callerA) (hY : ∀ (w : World) (h : Heap), YP w h → (K w.params).In h)
    (F : ∀ (w : World) (mg : Str → Option Value) (fa : Addr) (h : Heap), (K w.params).In h → h.Ns mainGlobals mg → (∀ (dd : DefRec) (y : Str) (c P : Addr), (recsOf q).find? (fun e => e.name == y) = some dd → tabIn (K w.params) y = some (c, P) → TabFact (K w.params) h c P) → mg d.name = some (.ref fa) → LamX.LawAtS l w (K w.params) (CX w) k n x mg fa h)
    (hCX : ∀ (w : World) (H : Hp) (s : Shared) (e : Value) (s' : Shared), CX w [] H s (fun _ _ _ => False) e s' → False) :
    WalkO q loose XP YP l.row.toRowW d [] (fun f vs => PySem.call f vs) := by
  refine Att.attach_callB hn hdf fun w s₀ s₁ mg mb fa o pm cd doc a vs ns G Y ho hd hcd hmg hobj hints hlen hbits hg => ?_
  have KX := hY w _ Y
  obtain ⟨fd, cs, sp, hT, nT, C, hb, hsp, hF⟩ := F w mg fa _ KX G.T.g (fun dd y c P h1 h2 => tab_of G.T KX h1 h2) hmg
  exact LamX.law_callTs KX G.T.g G.T.b G.T.builtins G.T.nolimit hg hT nT C G.T.bmain hobj hints (Nat.le_trans hlen hn2) hr hF hb (fun H hH hS => hsp H a ns hlen hbits hH hS) fun H e s' => hCX w H s₁ e s'
theorem cxN_none {P : Program} {w : World} {H : Hp} {s : Shared} {e : Value} {s' : Shared} (h : L2N.CX P w [] H s (fun _ _ _ => False) e s') : False := by
  obtain ⟨_, _, _, _, _, _, _, _, _, _, _, _, z⟩ := h
  exact z
/-- a promise for each of many -/
theorem FnOk.ex {ι : Type} {P : Program} {w : World} {K : Frag} {mg : Str → Option Value} {base : Heap} {CX : CXT} {k : Nat} {f : Addr} {fd : FuncData} {ps : List Str} {sp : ι → Sp} (F : ∀ i, FnOk P w K mg base CX k f fd ps (sp i)) :
    FnOk P w K mg base CX k f fd ps (fun vs H Q E => ∃ i, sp i vs H Q E) :=
  ⟨fun vs H Q E ⟨i, h⟩ => (F i).len vs H Q E h, fun A outer s H args us vs Q E hr he hb hv ⟨i, h⟩ => (F i).run A outer s H args us vs Q E hr he hb hv h⟩
/-- the law's promise: for the script at a with the ints ns its mirror gives True -/
theorem law_sp {K : Frag} {T : List (Addr × Str)} {ct fa : Nat → Addr} {lc : Nat} {m : List Int → List D → M D} {H : Hp} {a : Addr} {ns : List Int} (hT : ∀ p ∈ T, H p.1 = some (.tbl #[])) (hS : SqL K H a (ns.map V.int))
    (h : ∃ st, m ns [.scr] [] = .ok (.bl true) st) : ∃ i : Addr × List Int, spM ⟨K, T, ct, fa, i.1, i.2, 0, lc, 0⟩ 1 (m i.2) [.ref a] H (fun v _ => v = .bl true) (fun _ _ _ => False) := by
  obtain ⟨st, e⟩ := h
  refine ⟨(a, ns), [], [], [.scr], rfl, ⟨rfl, List.nodup_nil, fun n a ds h => by simp at h, fun p hp => LamX.TabS.nil (hT p hp), ?_⟩, .cons .scr .nil, ?_⟩
  · rcases hS with h | h
    · exact .inl ⟨h, by simp⟩
    · exact .inr h
  · show Pst _ _ [] H (m ns [.scr] []) _
    rw [e]
    intro H' L' po rs v rv
    cases rv
    rfl
end Mir
/-! MirJ: small rules that the printed derivations name. -/
namespace Mir
open PySem _root_.L2 PyProof.Rows
variable {H H' H1 H2 : Hp} {L L' L1 L2 : List Addr} {st st' : Store} {X : Cx} {G : Gx} {E : XK}
theorem tTest_k {m : EM D} {t : TE} (h : ∀ σ H Q, tM G E m σ H Q → t σ H Q) : ∀ σ H Q, tT G E (fun env => mBl (m env)) σ H Q → tTest t σ H Q := by
  rintro σ H Q ⟨L, st, env, rs, re, p⟩
  refine h _ _ _ ⟨L, st, env, rs, re, (mBl_k (m := m env) p).mono fun d st1 L1 H1 po rs1 q v rv => ?_⟩
  obtain ⟨b, rfl, q⟩ := q
  cases rv
  exact ⟨b, rfl, q⟩
theorem chain_k {a b c : Expr} {op op' : CmpOp} {g g' : D → D → O} {ma mb mc : EM D} (ho : OpM X G (compareOp op) g) (ho' : OpM X G (compareOp op') g') (ha : PE X a (tM G E ma)) (hb : PE X b (tM G E mb)) (hc : PE X c (tM G E mc)) :
    ∃ r r', OpR X (compareOp op) r ∧ OpR X (compareOp op') r' ∧ ∀ σ H Q, tM G E (eChain g g' ma mb mc) σ H Q → tChain r r' (tM G E ma) (tM G E mb) (tM G E mc) σ H Q := by
  obtain ⟨r, hr, hf⟩ := ho.ex
  obtain ⟨r', hr', hf'⟩ := ho'.ex
  refine ⟨r, r', hr, hr', fun σ H Q ⟨L, st, env, rs, re, p⟩ => ?_⟩
  refine ⟨L, st, env, rs, re, (Pst.bind (m := ma env) p).mono fun dx st1 L1 H1 po1 rs1 q x rx => ?_⟩
  have re1 := re.po po1 rs.lst
  refine ⟨L1, st1, env, rs1, re1, (Pst.bind (m := mb env) q).mono fun dy st2 L2 H2 po2 rs2 q2 y ry => ?_⟩
  have re2 := re1.po po2 rs1.lst
  obtain ⟨d, st3, e, q3⟩ := lift_k (α := Unit) (mBl_k (Pst.bind (m := mBl (lift (g dx dy))) q2))
  refine hf x y dx dy H2 L2 st2 _ rs2 (rx.po po2 rs1.lst) ry d st3 e fun v H3 L3 po3 rs3 rv => ?_
  obtain ⟨k, ek, q4⟩ := q3 H3 L3 po3 rs3
  subst ek
  cases rv
  refine ⟨k, rfl, ?_⟩
  cases k with
  | false => exact q4 H3 L3 (Po.refl _ _) rs3 _ (.bl _)
  | true =>
    refine ⟨L3, st3, env, rs3, re2.po po3 rs2.lst, (Pst.bind (m := mc env) q4).mono fun dz st4 L4 H4 po4 rs4 q5 z rz => ?_⟩
    obtain ⟨d', st5, e', q6⟩ := lift_k (α := Unit) q5
    exact hf' y z dy dz H4 L4 st4 _ rs4 ((ry.po po3 rs2.lst).po po4 rs3.lst) rz d' st5 e' fun v H5 L5 po5 rs5 rv => q6 H5 L5 po5 rs5 v rv
theorem dt_chain {a b c : Expr} {op op' : CmpOp} {g g' : D → D → O} {ma mb mc : EM D} {pos} (ho : OpM X G (compareOp op) g) (ho' : OpM X G (compareOp op') g') (ha : PE X a (tM G E ma)) (hb : PE X b (tM G E mb)) (hc : PE X c (tM G E mc))
    (h : ∀ r r' ta tb tc, OpR X (compareOp op) r → OpR X (compareOp op') r' → PE X a ta → PE X b tb → PE X c tc → PT X (.Compare a [op, op'] [b, c] pos) (tTest (tChain r r' ta tb tc))) : PT X (.Compare a [op, op'] [b, c] pos) (tT G E fun env => mBl (eChain g g' ma mb mc env)) := by
  obtain ⟨r, r', hr, hr', k⟩ := chain_k ho ho' ha hb hc
  exact PT.imp (h r r' _ _ _ hr hr' ha hb hc) (tTest_k k)
/-- a global int -/
theorem d_globI {x : Str} {i : Int} {pos : Pos} (hg : Gl X x) (hm : ∃ t, X.mg x = some (.int i t)) (hd : (x == ("__debug__" : Str)) = false := by decide) : PE X (.Name x pos) (tM G E (eC (.int i))) := by
  obtain ⟨t, e⟩ := hm
  exact d_const (pe_glob hg e (v := .int i) ⟨t, rfl⟩ hd) fun _ _ => .int i
theorem pe_strE {x y : Str} {j pos} (e : x = y) : PE X (.Constant (.str x) j pos) (tC (.str y)) := by subst e; exact pe_str
/-- list(x), x not the script -/
def gListN (x : D) : O := fun st => match x with
  | .scr => none
  | d => gList [] d st
theorem c_listN (hK : X.K = G.K) : CallM X G (.type "list") (f1 gListN) := by
  have h := c_list (X := X) (G := G) hK
  obtain ⟨r, hr, hf⟩ := h.ex
  refine ⟨⟨r, hr, fun xs ds H L st Q rs rx d st' e q => hf xs ds H L st Q rs rx d st' ?_ q⟩⟩
  unfold f1 at e ⊢
  split at e
  · rename_i x
    unfold gListN at e
    split at e
    · cases e
    · rename_i hx
      unfold gList at e ⊢
      split at e
      · exact absurd rfl hx
      all_goals exact e
  · cases e
section
variable {P : Program} {w : World} {K : W.Frag} {mg : Str → Option Value} {base : Heap}
theorem fnOk_bad {CXt : CXT} {k n : Nat} {f : Addr} {fd : FuncData} {ps : List Str} {φ : List D → M D} (h : ∀ ds st, φ ds st = .bad) : FnOk P w K mg base CXt k f fd ps (spM G n φ) :=
  ⟨fun vs H Q E ⟨L, st, ds, _, _, _, p⟩ => by rw [h] at p; exact p.elim, fun A outer s H args us vs Q E hr he hb hv ⟨L, st, ds, _, _, _, p⟩ => by rw [h] at p; exact p.elim⟩
end
/-- an error of the class at D, of S or below it, is what «except S» names -/
theorem exm_below {K : PySem.W.Frag} {D S : Addr} (h1 : PySem.W.subIn K (.ref S) (.type "BaseException") = some true) (h2 : PySem.W.isClsIn K S = true) (h3 : PySem.W.typeIn K (.ref S) = some (.type "type")) (h4 : PySem.W.subIn K (.ref D) (.ref S) = some true) :
    PySem.W.exmOne K (.ref D) (.ref S) = some true := by
  have e1 : (PySem.W.subIn K (.ref S) (.type "BaseException") == some true) = true := by rw [h1] <;> rfl
  have e2 : ((PySem.W.clsIn K S).isSome && PySem.W.typeIn K (.ref S) == some (.type "type")) = true := by
    have h2' : (PySem.W.clsIn K S).isSome = true := h2
    rw [h2', h3] <;> rfl
  show (if (PySem.W.subIn K (.ref S) (.type "BaseException") == some true) = true then (if ((PySem.W.clsIn K S).isSome && PySem.W.typeIn K (.ref S) == some (.type "type")) = true then PySem.W.subIn K (.ref D) (.ref S) else none) else none) = some true
  rw [if_pos e1, if_pos e2]
  exact h4
theorem hot1_suite {a : Addr} {oe : Obj} {pn : List (Addr × Obj)} {cls : Value} {d : Option Addr} (hz : L2N.Zn cls d oe) (hf : ∃ vs, oe.data = .fields vs) : L2H.Hot1 (X.suite a ((a, oe) :: pn)).A (a, oe) := by
  obtain ⟨vs, hv⟩ := hf
  exact ⟨rfl, vs, hv, hz.2.2 vs hv⟩
end Mir
/-! MirK: the mirror as plain computation: loops over fixed lists, bounds of bits, the simp set. -/
namespace Mir
open PySem
/-- a for over given items -/
def forL (t : Tg) (b : SM) : List D → SM
  | [], env => mpure (.next env)
  | d :: ds, env => match Tg.set t d env with
    | none => mbad
    | some env1 => mbind (b env1) fun f => match f with
      | .next env' => forL t b ds env'
      | .cont env' => forL t b ds env'
      | .brk env' => mpure (.next env')
      | .ret d => mpure (.ret d)
theorem forN_list {nx : Nx} {t : Tg} {b : SM} {ds : List D} (h : ∀ i st, nx i st = some ds[i]?) : ∀ (n i : Nat) (env : Env) (st : Store), ds.length - i < n → forN nx t b n i env st = forL t b (ds.drop i) env st
  | 0, i, env, st, hn => absurd hn (Nat.not_lt_zero _)
  | n + 1, i, env, st, hn => by
    rw [forN_succ, h]
    by_cases hi : i < ds.length
    · rw [List.getElem?_eq_getElem hi, List.drop_eq_getElem_cons hi]
      unfold forL
      dsimp only
      cases e : Tg.set t ds[i] env with
      | none => rfl
      | some env1 =>
        dsimp only
        unfold mbind
        cases e2 : b env1 st with
        | ok f st1 =>
          cases f with
          | next env' => exact forN_list h n (i + 1) env' st1 (by omega)
          | cont env' => exact forN_list h n (i + 1) env' st1 (by omega)
          | brk env' => rfl
          | ret d => rfl
        | exc c st1 => rfl
        | bad => rfl
    · rw [List.getElem?_eq_none (by omega), List.drop_eq_nil_of_le (by omega)]
      rfl
def rangeD (lo : Int) : Nat → List D
  | 0 => []
  | n + 1 => .int lo :: rangeD (lo + 1) n
theorem rangeD_len : ∀ (lo : Int) (n : Nat), (rangeD lo n).length = n
  | _, 0 => rfl
  | lo, n + 1 => by unfold rangeD; rw [List.length_cons, rangeD_len]
theorem rangeD_get : ∀ (lo : Int) (n i : Nat), (rangeD lo n)[i]? = if i < n then some (.int (lo + i)) else none
  | _, 0, _ => by unfold rangeD; simp
  | lo, n + 1, 0 => by unfold rangeD; simp
  | lo, n + 1, i + 1 => by
    unfold rangeD
    rw [List.getElem?_cons_succ, rangeD_get]
    by_cases h : i < n
    · rw [if_pos h, if_pos (by omega)]; congr 2; omega
    · rw [if_neg h, if_neg (by omega)]
theorem forR {lo : Int} {m : Nat} {t : Tg} {b : SM} {env : Env} {st : Store} (h : m ≤ 1000000) : forN (nxRange lo m) t b FUEL 0 env st = forL t b (rangeD lo m) env st := by
  rw [forN_list (ds := rangeD lo m) (fun i st => by unfold nxRange; rw [rangeD_get]) FUEL 0 env st (by rw [rangeD_len]; exact Nat.lt_of_le_of_lt h (by decide))]
  rfl
theorem forT {ds : List D} {t : Tg} {b : SM} {env : Env} {st : Store} (h : ds.length ≤ 1000000) : forN (fun i _ => some ds[i]?) t b FUEL 0 env st = forL t b ds env st := by
  rw [forN_list (ds := ds) (fun i st => rfl) FUEL 0 env st (Nat.lt_of_le_of_lt h (by decide))]
  rfl
/-- a comprehension over given items -/
def lcL (t : Tg) (c : EM Bool) (e : EM D) (env : Env) : List D → List D → M D
  | [], acc => fun st => .ok (.loc st.length) (st ++ [acc])
  | d :: ds, acc => match Tg.set t d env with
    | none => mbad
    | some env1 => mbind (mtot (c env1)) fun b => if b then mbind (mtot (e env1)) fun y => if acc.length < 16777216 then lcL t c e env ds (acc ++ [y]) else mbad else lcL t c e env ds acc
theorem lcN_list {nx : Nx} {t : Tg} {c : EM Bool} {e : EM D} {env : Env} {ds : List D} (h : ∀ i st, nx i st = some ds[i]?) : ∀ (n i : Nat) (acc : List D) (st : Store), ds.length - i < n → lcN nx t c e env n i acc st = lcL t c e env (ds.drop i) acc st
  | 0, i, acc, st, hn => absurd hn (Nat.not_lt_zero _)
  | n + 1, i, acc, st, hn => by
    rw [lcN_succ, h]
    by_cases hi : i < ds.length
    · rw [List.getElem?_eq_getElem hi, List.drop_eq_getElem_cons hi]
      unfold lcL
      dsimp only
      cases e1 : Tg.set t ds[i] env with
      | none => rfl
      | some env1 =>
        dsimp only
        unfold mbind
        cases e2 : mtot (c env1) st with
        | ok b st1 =>
          cases b with
          | false => exact lcN_list h n (i + 1) acc st1 (by omega)
          | true =>
            dsimp only
            rw [if_pos rfl, if_pos rfl]
            cases e3 : mtot (e env1) st1 with
            | ok y st2 =>
              dsimp only
              by_cases hl : acc.length < 16777216
              · rw [if_pos hl, if_pos hl]
                exact lcN_list h n (i + 1) _ st2 (by omega)
              · rw [if_neg hl, if_neg hl]
            | exc c st2 => rfl
            | bad => rfl
        | exc c st1 => rfl
        | bad => rfl
    · rw [List.getElem?_eq_none (by omega), List.drop_eq_nil_of_le (by omega)]
      rfl
theorem lcR {lo : Int} {m : Nat} {t : Tg} {c : EM Bool} {e : EM D} {env : Env} {st : Store} (h : m ≤ 1000000) : lcN (nxRange lo m) t c e env FUEL 0 [] st = lcL t c e env (rangeD lo m) [] st := by
  rw [lcN_list (ds := rangeD lo m) (fun i st => by unfold nxRange; rw [rangeD_get]) FUEL 0 [] st (by rw [rangeD_len]; exact Nat.lt_of_le_of_lt h (by decide))]
  rfl
theorem lcT {ds : List D} {t : Tg} {c : EM Bool} {e : EM D} {env : Env} {st : Store} (h : ds.length ≤ 1000000) : lcN (fun i _ => some ds[i]?) t c e env FUEL 0 [] st = lcL t c e env ds [] st := by
  rw [lcN_list (ds := ds) (fun i st => rfl) FUEL 0 [] st (Nat.lt_of_le_of_lt h (by decide))]
  rfl
/-- a comprehension whose test never holds and leaves the store -/
theorem lcN_none {nx : Nx} {t : Tg} {c : EM Bool} {e : EM D} {env : Env} {st : Store} {k : Nat} (hd : ∀ i, i < k → ∃ d env1, nx i st = some (some d) ∧ Tg.set t d env = some env1 ∧ c env1 st = .ok false st) (hk : nx k st = some none) : ∀ (n i : Nat) (acc : List D), k - i < n → i ≤ k → lcN nx t c e env n i acc st = .ok (.loc st.length) (st ++ [acc])
  | 0, i, acc, hn, _ => absurd hn (Nat.not_lt_zero _)
  | n + 1, i, acc, hn, hi => by
    rw [lcN_succ]
    by_cases hik : i = k
    · subst hik; rw [hk]
    · obtain ⟨d, env1, e1, e2, e3⟩ := hd i (by omega)
      rw [e1]
      dsimp only
      rw [e2]
      dsimp only
      unfold mbind mtot
      rw [e3]
      dsimp only
      rw [if_neg (by decide)]
      exact lcN_none hd hk n (i + 1) acc (by omega) (by omega)
theorem iBin_k {c : Int → Int → Bool} {f : Int → Int → D} {i j : Int} {st : Store} (h : c i j = true) : iBin c f (.int i) (.int j) st = some (f i j, st) := by
  unfold iBin
  dsimp only
  rw [if_pos h]
theorem iBin_t {f : Int → Int → D} {i j : Int} {st : Store} : iBin cT f (.int i) (.int j) st = some (f i j, st) := iBin_k rfl
theorem iMod_k {i j : Int} {st : Store} (h : j ≠ 0) : iMod (.int i) (.int j) st = some (.int (i.fmod j), st) := iBin_k (decide_eq_true h)
theorem iDiv_k {i j : Int} {st : Store} (h : cDiv i j = true) : iDiv (.int i) (.int j) st = some (.int (i.fdiv j), st) := iBin_k h
theorem iMul_k {i j : Int} {st : Store} (h : cMul i j = true) : iMul (.int i) (.int j) st = some (.int (i * j), st) := iBin_k h
theorem iPow_k {i j : Int} {st : Store} (h : cPow i j = true) : iPow (.int i) (.int j) st = some (.int (i ^ j.toNat), st) := iBin_k h
/-- goes on -/
def OkN (r : R Fl) (I : Env → Store → Prop) : Prop := match r with
  | .ok (.next e) st => I e st
  | _ => False
theorem OkN.ex {r : R Fl} {I : Env → Store → Prop} (h : OkN r I) : ∃ e st, r = .ok (.next e) st ∧ I e st := by
  unfold OkN at h
  split at h
  · exact ⟨_, _, rfl, h⟩
  · exact h.elim
theorem forL_inv {t : Tg} {b : SM} {I : Env → Store → Prop} : ∀ (ds : List D) (env : Env) (st : Store), (∀ d ∈ ds, ∀ env st, I env st → ∃ env1, Tg.set t d env = some env1 ∧ OkN (b env1 st) I) → I env st → ∃ e s, forL t b ds env st = .ok (.next e) s ∧ I e s
  | [], env, st, _, i => ⟨env, st, rfl, i⟩
  | d :: ds, env, st, h, i => by
    obtain ⟨env1, e1, k⟩ := h d List.mem_cons_self env st i
    obtain ⟨e2, s2, e, i2⟩ := k.ex
    obtain ⟨e3, s3, e', i3⟩ := forL_inv ds e2 s2 (fun x hx => h x (List.mem_cons_of_mem _ hx)) i2
    refine ⟨e3, s3, ?_, i3⟩
    unfold forL
    rw [e1]
    dsimp only
    unfold mbind
    rw [e]
    exact e'
/-! ### bits -/
theorem bits_of {k : Int} {n : Nat} (h : k.natAbs < 2 ^ n) : Builtin.Int.intBits k ≤ n := PyProof.Rows.intBits_le h
theorem bits_small {k : Int} (h0 : -(2^64) < k) (h : k < 2 ^ 64) : Builtin.Int.intBits k ≤ 64 := bits_of (by omega)
theorem cMul_of {i j : Int} {m n : Nat} (h1 : Builtin.Int.intBits i ≤ m) (h2 : Builtin.Int.intBits j ≤ n) (h : m + n ≤ 134217728) : cMul i j = true := by
  unfold cMul; exact Nat.ble_eq_true_of_le (by omega)
theorem b_add {i j : Int} {m n : Nat} (h1 : Builtin.Int.intBits i ≤ m) (h2 : Builtin.Int.intBits j ≤ n) : Builtin.Int.intBits (i + j) ≤ m + n + 1 := Nat.le_trans (PySem.intBits_add_le h1 h2) (by omega)
theorem b_sub {i j : Int} {m n : Nat} (h1 : Builtin.Int.intBits i ≤ m) (h2 : Builtin.Int.intBits j ≤ n) : Builtin.Int.intBits (i - j) ≤ m + n + 1 := Nat.le_trans (PySem.intBits_sub_le h1 h2) (by omega)
theorem b_mul {i j : Int} {m n : Nat} (h1 : Builtin.Int.intBits i ≤ m) (h2 : Builtin.Int.intBits j ≤ n) : Builtin.Int.intBits (i * j) ≤ m + n := PySem.intBits_mul_le h1 h2
theorem b_neg {i : Int} {m : Nat} (h1 : Builtin.Int.intBits i ≤ m) : Builtin.Int.intBits (-i) ≤ m := PySem.intBits_neg_le h1
theorem log2_small {k : Int} (h0 : 0 ≤ k) (h : k < 2 ^ 64) : k.natAbs.log2 < 9000 := by
  by_cases h0 : k.natAbs = 0
  · rw [h0]; decide
  · exact (Nat.log2_lt h0).mpr (Nat.lt_of_lt_of_le (by omega : k.natAbs < 2 ^ 64) (Nat.pow_le_pow_right (by decide) (by decide)))
end Mir
/-! MirL: calls of names that hold defs, defs as values, math.gcd, append, one sign of a text and other small words. -/
namespace Mir
open PySem _root_.L2 PyProof.Rows
variable {H H' H1 H2 : Hp} {L L' L1 L2 : List Addr} {st st' : Store} {X : Cx} {G : Gx} {E : XK}
/-- a def as a value -/
theorem d_globF {x : Str} {k : Nat} {f : Addr} {pos : Pos} (hf : f = G.fa k) (hg : Gl X x) (hm : X.mg x = some (.ref f)) (hd : (x == ("__debug__" : Str)) = false := by decide) : PE X (.Name x pos) (tM G E (eC (.fn k))) := by
  subst hf
  exact d_const (pe_glob hg hm (v := .ref (G.fa k)) rfl hd) fun _ _ => .fn k
/-- the defs by their numbers: how many parameters, and the mirror -/
abbrev FTab := Nat → Option (Nat × (List D → M D))
def eFnL (tab : FTab) (i : Nat) (ms : EM (List D)) : EM D := fun env st => match env[i]? with
  | some (some (.fn m)) => (match tab m with
    | some (_, φ) => mbind (ms env) (iso φ) st
    | none => .bad)
  | _ => .bad
structure HeldM (P : Program) (w : World) (K : W.Frag) (mg : Str → Option Value) (base : Heap) (k : Nat) (G : Gx) (m n : Nat) (φ : List D → M D) : Prop where
  ex : ∃ (fd : FuncData) (ps : List Str), FnOk P w K mg base (L2N.CX P w) k (G.fa m) fd ps (spM G n φ) ∧ PySem.W.keepIn K (.ref (G.fa m)) = true ∧ Binds K fd ps []
  hl : ∀ ds st, ds.length ≠ n → φ ds st = .bad
theorem d_fnL {tab : FTab} {k i : Nat} {x : Str} {p pos : Pos} {e : Expr} {es : List Expr} {ms : EM (List D)} (A : ∀ m n φ, tab m = some (n, φ) → HeldM X.prog X.w X.K X.mg X.base k G m n φ) (hr : Room k X.A) (tk : L2N.Takes X (fun cls d _ H => E cls d H))
    (hN : X.N[i]? = some x) (hv : Vis X.env.scope x) (ha : PA X (e :: es) (tA G E ms))
    (hdb : (x == ("__debug__" : Str)) = false := by decide) (hcd : (x == ("__classdict__" : Str)) = false := by decide)
    (he : starEach (e :: es) X.env = (false, eval e X.env) :: starEach es X.env := by rfl) (hpl : (backTo pos (starEach es X.env)).any (·.1) = false := by rfl) :
    PE X (.Call (.Name x p) (e :: es) [] pos) (tM G E (eFnL tab i ms)) := ⟨fun pins s σ H Q I ⟨L, st, env, rs, re, q⟩ => by
  unfold eFnL at q
  split at q
  · rename_i m em
    obtain ⟨v, hv', rv⟩ := re.at_ _ _ em
    split at q
    · rename_i n φ et
      have Hm := A m n φ et
      obtain ⟨fd, ps, F, hk, hb⟩ := Hm.ex
      have ev : v = .ref (G.fa m) := by cases rv; rfl
      subst ev
      refine wpAny_Call_Name_kw (thn ((pe_var (pos := p) hN hv hdb hcd).run pins s σ H (fun v H1 => v = .ref (G.fa m) ∧ H1 = H) I ⟨_, hv', rfl, rfl⟩) fun u s1 ⟨v, H1, I1, r1, q1⟩ => ?_)
      obtain ⟨rfl, rfl⟩ := q1
      cases r1
      have t : tA G E ms σ H1 fun vs H2 => spM G n φ (vs ++ []) H2 Q E := by
        refine ⟨L, st, env, rs, re, (Pst.bind (m := ms env) q).mono fun ds st1 L1 H2 po1 rs1 q2 vs rvs => ?_⟩
        show spM G n φ (vs ++ []) H2 Q E
        rw [List.append_nil]
        exact iso_sp Hm.hl rs1 rvs q2
      refine PySem.W.callWith_K (h₀ := X.base) I.ok.mod.kin hk (thn (ha.run pos pins s1 σ _ _ I1 t) fun us s2 ⟨vs, H2, I2, r, q⟩ => ⟨I2.kIn, ?_⟩) he hpl
      exact run_fnSD (ds := []) (dvs := []) (E := fun _ => E) F hr hb .nil (L2N.passAt tk σ) I2 r q
    · exact q.elim
  · exact q.elim⟩
/-- math.gcd -/
def gGcd (x y : D) : O := fun st => match x, y with
  | .int a, .int b => some (.int ((Nat.gcd a.natAbs b.natAbs : Nat) : Int), st)
  | _, _ => none
theorem c_gcd : CallM X G (.builtin "math.gcd") (f2 gGcd) := callM2 cr_gcd fun x y dx dy H L st Q rs rx ry => fits_same rs fun d st' e => by
  unfold gGcd at e
  split at e
  · cases e; cases rx; cases ry
    exact ⟨rfl, _, .int _, fun q => ⟨_, _, rfl, q⟩⟩
  · cases e
theorem d_callBf {x : Str} {id : String} {e : Expr} {es : List Expr} {g : List D → O} {ms : EM (List D)} {p pos} (hc : CallM X G (.builtin id) g) (hg : Gl X x) (hm : X.mg x = some (.builtin id)) (ha : PA X (e :: es) (tA G E ms))
    (h : ∀ r t, CallR X (.builtin id) r → PA X (e :: es) t → PE X (.Call (.Name x p) (e :: es) [] pos) (tCB r t)) : PE X (.Call (.Name x p) (e :: es) [] pos) (tM G E (eCall g ms)) := by
  obtain ⟨r, hr, hf⟩ := hc.ex
  exact PE.imp (h r _ hr ha) fun σ H Q q => callk hf q
/-- xs.append(e) -/
def gAppend (x y : D) : O := fun st => match x with
  | .loc n => match st[n]? with
    | some ds => if ds.length < 16777216 then some (.non, st.set n (ds ++ [y])) else none
    | none => none
  | _ => none
def eM1 (g : D → D → O) (mo : EM D) (ms : EM (List D)) : EM D := fun env => mbind (mo env) fun x => match x with
  | .loc n => mbind (ms env) fun ds => (match ds with
    | [y] => lift (g (.loc n) y)
    | _ => mbad)
  | _ => mbad
theorem d_append {o e : Expr} {mo : EM D} {ms : EM (List D)} {apos pos : Pos} (ho : PE X o (tM G E mo)) (he : PA X [e] (tA G E ms))
    (h : ∀ to t, PE X o to → PA X [e] t → PE X (.Call (.Attribute o "append" apos) [e] [] pos) (tBM X.K "list" rAppend to t)) : PE X (.Call (.Attribute o "append" apos) [e] [] pos) (tM G E (eM1 gAppend mo ms)) := by
  refine PE.imp (h _ _ ho he) fun σ H Q ⟨L, st, env, rs, re, p⟩ => ?_
  refine ⟨L, st, env, rs, re, (Pst.bind (m := mo env) p).mono fun dx st1 L1 H1 po1 rs1 q x rx => ?_⟩
  have re1 := re.po po1 rs.lst
  cases dx with
  | loc n =>
    have q := Pst.bind (m := ms env) q
    obtain ⟨a, rfl, ha⟩ := loc_inv rx
    obtain ⟨ys, hy⟩ := rs1.lst a (List.mem_of_getElem? ha)
    refine ⟨.inl ⟨rfl, ys, SqL.of hy⟩, L1, st1, env, rs1, re1, q.mono fun ds st2 L2 H2 po2 rs2 q2 vs rvs => ?_⟩
    split at q2
    · rename_i y
      obtain ⟨d, st3, e3, q3⟩ := lift_k (α := Unit) q2
      unfold gAppend at e3
      dsimp only at e3
      split at e3
      · rename_i es ees
        by_cases hl : es.length < 16777216
        · rw [if_pos hl] at e3
          cases e3
          have ha2 := pre_get po2.pre ha
          obtain ⟨xs, hx, rxs⟩ := rs2.get ha2 ees
          cases rvs with
          | cons h1 h2 =>
            cases h2
            obtain ⟨po4, rs4⟩ := set_lst rs2 ha2 (rxs.app (.cons h1 .nil))
            exact ⟨a, xs, _, rfl, rfl, hx, by rw [sizeLine_eq, rxs.length]; exact hl, q3 _ _ po4 rs4 _ .non⟩
        · rw [if_neg hl] at e3; cases e3
      · cases e3
    · exact q2.elim
  | _ => exact q.elim
end Mir
/-! MirW: the laws' common helpers: the cup, draws, likeness. The first defs are printed by gen.py. -/
namespace Mir
open PySem _root_.L2 PyProof.Rows
def wb_cup (sn : List Int) : SM := (sSeq (sAsg (eCall (f1 gAbs) (aCons (eBin gIx (eBin gAdd (eCall (f1 (gList sn)) (aCons (eVar 0) aNil)) (eLst (aCons (eC (.int (0))) aNil))) (eC (.int (0)))) aNil)) (.nm 1))
  (sRet (eLst (aCons (eIf (fun env => mBl (eBin (iBin cT fun i j => .bl (decide (j ≤ i))) (eVar 1) (eBin iPow (eC (.int (10))) (eC (.int (18)))) env)) (eBin iDiv (eVar 1) (eC (.int (277)))) (eC (.int (0)))) (aCons (eBin iMod (eCall (f1 gInt) (aCons (eBin gAdd (eBin gMul (eVar 1) (eC (.int (1039)))) (eC (.int (85447)))) aNil)) (eC (.int (1048576)))) aNil)))))
def w_cup (sn : List Int) : List D → M D := fnM 1 2 (wb_cup sn)
def wb_roll : SM := (sSeq (sIf (fun env => mBl (eBin (iBin cT fun i j => .bl (decide (j < i))) (eBin gIx (eVar 0) (eC (.int (0)))) (eC (.int (0))) env)) (sSeq (sAsg (eBin iMod (eCall (f1 gInt) (aCons (eBin gIx (eVar 0) (eC (.int (0)))) aNil)) (eVar 1)) (.nm 2))
  (sSeq (sSet (eBin iDiv (eBin gIx (eVar 0) (eC (.int (0)))) (eVar 1)) (eVar 0) (eC (.int (0))))
  (sRet (eVar 2)))) sNil)
  (sSeq (sSet (eBin iMod (eCall (f1 gInt) (aCons (eBin gAdd (eBin gMul (eBin gIx (eVar 0) (eC (.int (1)))) (eC (.int (17093)))) (eC (.int (36187)))) aNil)) (eC (.int (1048576)))) (eVar 0) (eC (.int (1))))
  (sRet (eBin iMod (eCall (f1 gInt) (aCons (eBin iDiv (eBin gIx (eVar 0) (eC (.int (1)))) (eC (.int (107)))) aNil)) (eVar 1)))))
def w_roll : List D → M D := fnM 2 3 (wb_roll)
def wb_some : SM := (sRet (eBin gIx (eVar 1) (eFn 2 w_roll (aCons (eVar 0) (aCons (eCall (f1 gLen) (aCons (eVar 1) aNil)) aNil)))))
def w_some : List D → M D := fnM 2 2 (wb_some)
def wb_sort : SM := (sSeq (sIf (bOr (fun env => mBl (eBin (gIsN false) (eVar 0) (eC .non) env)) (fun env => mTruth ((eCall (f2 gIsi) (aCons (eVar 0) (aCons (eC (.ty 1)) aNil))) env))) (sRet (eIf (fun env => mBl (eBin (gIsN false) (eVar 0) (eC .non) env)) (eC (.int (0))) (eC (.int (1))))) sNil)
  (sSeq (sIf (bOr (fun env => mTruth ((eCall (f2 gIsi) (aCons (eVar 0) (aCons (eC (.ty 0)) aNil))) env)) (fun env => mTruth ((eCall (f2 gIsi) (aCons (eVar 0) (aCons (eC (.ty 2)) aNil))) env))) (sRet (eIf (fun env => mTruth ((eCall (f2 gIsi) (aCons (eVar 0) (aCons (eC (.ty 0)) aNil))) env)) (eC (.int (2))) (eC (.int (3))))) sNil)
  (sRet (eIf (fun env => mTruth ((eCall (f2 gIsi) (aCons (eVar 0) (aCons (eC (.ty 3)) aNil))) env)) (eC (.int (4))) (eIf (fun env => mTruth ((eCall (f2 gIsi) (aCons (eVar 0) (aCons (eC (.ty 4)) aNil))) env)) (eC (.int (5))) (eC (.int (6))))))))
def w_sort : List D → M D := fnM 1 1 (wb_sort)
def wb_like (rec : List D → M D) : SM := (sSeq (sAsg (eFn 1 w_sort (aCons (eVar 1) aNil)) (.nm 2))
  (sSeq (sIf (bOr (fun env => mBl (eBin gNe (eFn 1 w_sort (aCons (eVar 0) aNil)) (eVar 2) env)) (fun env => mBl (eBin gEq (eVar 2) (eC (.int (6))) env))) (sRet (eC (.bl false))) sNil)
  (sSeq (sIf (fun env => mBl (eBin (gIn false) (eVar 2) (eTup (aCons (eC (.int (4))) (aCons (eC (.int (5))) aNil))) env)) (sRet (eAnd (eBin gEq (eCall (f1 gLen) (aCons (eVar 0) aNil)) (eCall (f1 gLen) (aCons (eVar 1) aNil))) (eBin gEq (eLc (iZipM (aCons (eVar 0) (aCons (eVar 1) aNil))) (.tp (.cons (.nm 3) (.cons (.nm 4) .nil))) (bNot (fun env => mTruth ((eFn 2 rec (aCons (eVar 3) (aCons (eVar 4) aNil))) env))) (eC (.int (1))) [3, 4]) (eLst aNil)))) sNil)
  (sRet (eBin gEq (eVar 0) (eVar 1))))))
def w_like : Nat → List D → M D
  | 0 => fun _ => mbad
  | n + 1 => fnM 2 5 (wb_like (w_like n))
def wb_whole : SM := (sSeq (sAsg (eFn 2 w_some (aCons (eVar 0) (aCons (eLst (aCons (eC (.int (7))) (aCons (eC (.int (100))) (aCons (eBin iPow (eC (.int (10))) (eC (.int (6)))) (aCons (eBin iPow (eC (.int (10))) (eC (.int (30)))) (aCons (eBin gMul (eBin iPow (eC (.int (10))) (eC (.int (30)))) (eBin iPow (eC (.int (10))) (eC (.int (50))))) aNil)))))) aNil))) (.nm 1))
  (sSeq (sAsg (eBin gAdd (eFn 2 w_some (aCons (eVar 0) (aCons (eLst (aCons (eC (.int (0))) (aCons (eC (.int (1))) (aCons (eC (.int (2))) (aCons (eC (.int (5))) (aCons (eVar 1) aNil)))))) aNil))) (eFn 2 w_roll (aCons (eVar 0) (aCons (eC (.int (9))) aNil)))) (.nm 2))
  (sRet (eIf (fun env => mBl (eBin gEq (eFn 2 w_roll (aCons (eVar 0) (aCons (eC (.int (2))) aNil))) (eC (.int (0))) env)) (eVar 2) (eUn iNeg (eVar 2))))))
def w_whole : List D → M D := fnM 1 3 (wb_whole)
/-! ### == by parts -/
theorem tp_non {st : Store} {k : Nat} : toPy st (k + 1) .non = some .none := rfl
theorem tp_bl {st : Store} {k : Nat} {b : Bool} : toPy st (k + 1) (.bl b) = some (.bool b) := rfl
theorem tp_int {st : Store} {k : Nat} {i : Int} : toPy st (k + 1) (.int i) = some (.int i) := rfl
theorem tp_str {st : Store} {k : Nat} {s : Str} : toPy st (k + 1) (.str s) = if (s.cps.all fun c => decide (c < 0x110000)) = true then some (.str s) else none := rfl
theorem tp_tup {st : Store} {k : Nat} {ds : List D} : toPy st (k + 1) (.tup ds) = match allPy (toPy st k) ds with
  | some xs => some (.tuple xs)
  | none => none := rfl
theorem tp_loc {st : Store} {k n : Nat} : toPy st (k + 1) (.loc n) = match st[n]? with
  | some ds => (match allPy (toPy st k) ds with
    | some xs => some (.list xs)
    | none => none)
  | none => none := rfl
theorem ieq (a b : Int) : (a == b) = decide (a = b) := rfl
theorem cPow_of {i j : Int} {m : Nat} (h0 : 0 ≤ j) (h : Builtin.Int.intBits i ≤ m) (h2 : m * j.toNat ≤ 134217728) : cPow i j = true := by
  unfold cPow
  rw [Bool.and_eq_true]
  exact ⟨decide_eq_true h0, Nat.ble_eq_true_of_le (Nat.le_trans (Nat.mul_le_mul_right _ h) h2)⟩
/-! ### ends -/
def Rets (r : R D) (v : D) : Prop := match r with
  | .ok d _ => d = v
  | _ => False
def Raises (r : R D) (k : Nat) : Prop := match r with
  | .exc c _ => c = k
  | _ => False
theorem Rets.ex {r : R D} {v : D} (h : Rets r v) : ∃ g, r = .ok v g := by
  unfold Rets at h
  split at h
  · subst h; exact ⟨_, rfl⟩
  · exact h.elim
theorem Raises.ex {r : R D} {k : Nat} (h : Raises r k) : ∃ g, r = .exc k g := by
  unfold Raises at h
  split at h
  · subst h; exact ⟨_, rfl⟩
  · exact h.elim
theorem isoArgs_pure (st : Store) : ∀ (ds : List D) (ns : List Nat) (s0 : Store), noLocs ds = true → isoArgs st ds ns s0 = some (ds, ns, s0)
  | [], _, _, _ => rfl
  | d :: ds, ns, s0, h => by
    unfold noLocs at h
    rw [Bool.and_eq_true] at h
    have ih := isoArgs_pure st ds ns s0 h.2
    cases d with
    | loc n => unfold noLoc at h; cases h.1
    | _ => unfold isoArgs; rw [if_pos h.1, ih]
theorem iso_pure {φ : List D → M D} {ds : List D} {v : D} (h : Rets (φ ds []) v) (ha : noLocs ds = true) (hv : noLoc v = true) (st : Store) : iso φ ds st = .ok v st := by
  obtain ⟨g, e⟩ := h.ex
  unfold iso
  rw [isoArgs_pure st ds [] [] ha]
  dsimp only
  rw [e]
  dsimp only
  rw [hv]
  rfl
theorem iso_raise {φ : List D → M D} {ds : List D} {k : Nat} (h : Raises (φ ds []) k) (ha : noLocs ds = true) (st : Store) : iso φ ds st = .exc k st := by
  obtain ⟨g, e⟩ := h.ex
  unfold iso
  rw [isoArgs_pure st ds [] [] ha]
  dsimp only
  rw [e]
  rfl
/-! ### the cup -/
structure Cup where
  a : Int
  b : Int
  ha : 0 ≤ a
  hb : 0 ≤ b
  hb2 : b < 1048576
def cs (c : Cup) : List D := [.int c.a, .int c.b]
@[simp] theorem noLocs_cs (c : Cup) : noLocs (cs c) = true := rfl
def RetsC (r : R D) (v : D) (c : Cup) : Prop := match r with
  | .ok d (s :: _) => d = v ∧ s = cs c
  | _ => False
theorem RetsC.ex {r : R D} {v : D} {c : Cup} (h : RetsC r v c) : ∃ g, r = .ok v (cs c :: g) := by
  unfold RetsC at h
  split at h
  · obtain ⟨rfl, rfl⟩ := h; exact ⟨_, rfl⟩
  · exact h.elim
theorem iso_cup {φ : List D → M D} {ds : List D} {v : D} {c c' : Cup} (h : RetsC (φ (.loc 0 :: ds) [cs c]) v c') (ha : noLocs ds = true) (hv : noLoc v = true) (t : Store) : iso φ (.loc 0 :: ds) (cs c :: t) = .ok v (cs c' :: t) := by
  obtain ⟨g, e⟩ := h.ex
  have q : isoArgs (cs c :: t) (.loc 0 :: ds) [] [] = some (.loc 0 :: ds, [0], [cs c]) := by
    unfold isoArgs
    dsimp only [List.getElem?_cons_zero]
    rw [if_pos (by rfl), isoArgs_pure _ ds _ _ ha]
    rfl
  unfold iso
  rw [q]
  dsimp only
  rw [e]
  dsimp only
  rw [hv]
  rfl
/-- the cup at another place -/
theorem iso_cupAt {φ : List D → M D} {ds : List D} {v : D} {c c' : Cup} {st : Store} {n : Nat} (h : RetsC (φ (.loc 0 :: ds) [cs c]) v c') (hn : st[n]? = some (cs c)) (ha : noLocs ds = true) (hv : noLoc v = true) : iso φ (.loc n :: ds) st = .ok v (st.set n (cs c')) := by
  obtain ⟨g, e⟩ := h.ex
  have q : isoArgs st (.loc n :: ds) [] [] = some (.loc 0 :: ds, [n], [cs c]) := by
    unfold isoArgs
    rw [hn]
    dsimp only
    rw [if_pos (by rfl), isoArgs_pure _ ds _ _ ha]
    rfl
  unfold iso
  rw [q]
  dsimp only
  rw [e]
  dsimp only
  rw [hv]
  rfl
theorem roll_m (c : Cup) (k : Int) (hk : 0 < k) (hk2 : k < 2 ^ 64) : ∃ (v : Int) (c' : Cup), RetsC (w_roll [.loc 0, .int k] [cs c]) (.int v) c' ∧ 0 ≤ v ∧ v < k := by
  obtain ⟨a, b, ha, hb, hb2⟩ := c
  have l1 := log2_small (Int.le_of_lt hk) hk2
  have hk0 : k ≠ 0 := by omega
  have c1 : cMul b 17093 = true := cMul_of (bits_small (k := b) (by omega) (by omega)) (bits_small (k := 17093) (by decide) (by decide)) (by decide)
  have c2 : ∀ i, cDiv i 107 = true := fun i => by unfold cDiv; decide
  have c3 : ∀ i, cDiv i k = true := fun i => by unfold cDiv; simp [hk0, l1]
  by_cases h : 0 < a
  · refine ⟨a.fmod k, ⟨a.fdiv k, b, Int.fdiv_nonneg ha (by omega), hb, hb2⟩, ?_, Int.fmod_nonneg ha (by omega), Int.fmod_lt_of_pos a hk⟩
    simp [fnM, sSeq, sNil, sIf, sAsg, sPar, sPar3, sRet, sSet, sExpr, sFor, sRaise, mraise, mbind, mpure, mbad, mtot, mBl, mTruth, truth, eBin, eUn, eVar, eC, eCall, eChain, eAnd, eOr, eNot, eIf, eTup, eLst, eFn, eLc, eSl, pNone, pSome, bNot, bAnd, bOr, aCons, aNil, lift, f1, f2, gIx, atI, ixN, gLen, gAbs, gInt, gTuple, gIsi, tyOf, isTy, gAdd, gMul, iBin_t, iMod_k, iDiv_k, iMul_k, iPow_k, iNeg, tAddO, gIsN, isNon, gIn, inF, eqF, gEqB, tp_non, tp_bl, tp_int, tp_str, tp_tup, tp_loc, allPy, PyData.eqv, PyData.eqvAll, Tg.set, Tgs.set, iOf, nxOf, iRange, rBound, forR, forT, lcR, lcT, forL, lcL, rangeD, wipeE, cTrue, noLoc, noLocs, gAll, allBl, ieq, RetsC, cs, w_roll, wb_roll, h, hk0, c3]
  · refine ⟨(((b * 17093 + 36187).fmod 1048576).fdiv 107).fmod k, ⟨a, (b * 17093 + 36187).fmod 1048576, ha, Int.fmod_nonneg (by omega) (by decide), Int.fmod_lt_of_pos _ (by decide)⟩, ?_, Int.fmod_nonneg (Int.fdiv_nonneg (Int.fmod_nonneg (by omega) (by decide)) (by decide)) (by omega), Int.fmod_lt_of_pos _ hk⟩
    simp [fnM, sSeq, sNil, sIf, sAsg, sPar, sPar3, sRet, sSet, sExpr, sFor, sRaise, mraise, mbind, mpure, mbad, mtot, mBl, mTruth, truth, eBin, eUn, eVar, eC, eCall, eChain, eAnd, eOr, eNot, eIf, eTup, eLst, eFn, eLc, eSl, pNone, pSome, bNot, bAnd, bOr, aCons, aNil, lift, f1, f2, gIx, atI, ixN, gLen, gAbs, gInt, gTuple, gIsi, tyOf, isTy, gAdd, gMul, iBin_t, iMod_k, iDiv_k, iMul_k, iPow_k, iNeg, tAddO, gIsN, isNon, gIn, inF, eqF, gEqB, tp_non, tp_bl, tp_int, tp_str, tp_tup, tp_loc, allPy, PyData.eqv, PyData.eqvAll, Tg.set, Tgs.set, iOf, nxOf, iRange, rBound, forR, forT, lcR, lcT, forL, lcL, rangeD, wipeE, cTrue, noLoc, noLocs, gAll, allBl, ieq, RetsC, cs, w_roll, wb_roll, h, hk0, c1, c2]
/-- a draw from 0 to k - 1 -/
theorem roll_x (c : Cup) (k : Int) (hk : 0 < k) (hk2 : k < 2 ^ 64) : ∃ (v : Int) (c' : Cup), 0 ≤ v ∧ v < k ∧ ∀ t, iso w_roll [.loc 0, .int k] (cs c :: t) = .ok (.int v) (cs c' :: t) := by
  obtain ⟨v, c', h, h0, h1⟩ := roll_m c k hk hk2
  exact ⟨v, c', h0, h1, iso_cup h rfl rfl⟩
theorem some_m (c : Cup) (es : List D) (he : noLocs es = true) (h0 : 0 < es.length) (h1 : es.length < 2 ^ 60) : ∃ d ∈ es, ∃ c' : Cup, w_some [.loc 0, .loc 1] [cs c, es] = .ok d [cs c', es] := by
  obtain ⟨v, c', v0, v1, e⟩ := roll_x c es.length (by omega) (by omega)
  have hv : v.toNat < es.length := by omega
  have hv' : v < (es.length : Int) := v1
  refine ⟨es[v.toNat], List.getElem_mem hv, c', ?_⟩
  simp [fnM, sSeq, sNil, sIf, sAsg, sPar, sPar3, sRet, sSet, sExpr, sFor, sRaise, mraise, mbind, mpure, mbad, mtot, mBl, mTruth, truth, eBin, eUn, eVar, eC, eCall, eChain, eAnd, eOr, eNot, eIf, eTup, eLst, eFn, eLc, eSl, pNone, pSome, bNot, bAnd, bOr, aCons, aNil, lift, f1, f2, gIx, atI, ixN, gLen, gAbs, gInt, gTuple, gIsi, tyOf, isTy, gAdd, gMul, iBin_t, iMod_k, iDiv_k, iMul_k, iPow_k, iNeg, tAddO, gIsN, isNon, gIn, inF, eqF, gEqB, tp_non, tp_bl, tp_int, tp_str, tp_tup, tp_loc, allPy, PyData.eqv, PyData.eqvAll, Tg.set, Tgs.set, iOf, nxOf, iRange, rBound, forR, forT, lcR, lcT, forL, lcL, rangeD, wipeE, cTrue, noLoc, noLocs, gAll, allBl, ieq, w_some, wb_some, e, v0, hv', hv]
theorem noLoc_mem : ∀ {es : List D} {d : D}, noLocs es = true → d ∈ es → noLoc d = true
  | [], _, _, h => by cases h
  | e :: es, d, h, hm => by
    unfold noLocs at h
    rw [Bool.and_eq_true] at h
    rcases List.mem_cons.mp hm with rfl | hm
    · exact h.1
    · exact noLoc_mem h.2 hm
theorem set_id {α : Type} : ∀ {l : List α} {n : Nat} {x : α}, l[n]? = some x → l.set n x = l
  | [], _, _, h => by simp at h
  | y :: l, 0, x, h => by simp at h; subst h; rfl
  | y :: l, n + 1, x, h => by rw [List.set_cons_succ, set_id (by simpa using h)]
/-- one of several things -/
theorem some_x (c : Cup) (es : List D) (he : noLocs es = true) (h0 : 0 < es.length) (h1 : es.length < 2 ^ 60) : ∃ d ∈ es, ∃ c' : Cup, ∀ (t : Store) (j : Nat), t[j]? = some es → iso w_some [.loc 0, .loc (j + 1)] (cs c :: t) = .ok d (cs c' :: t) := by
  obtain ⟨d, hd, c', e⟩ := some_m c es he h0 h1
  refine ⟨d, hd, c', fun t j hj => ?_⟩
  have q : isoArgs (cs c :: t) [.loc 0, .loc (j + 1)] [] [] = some ([.loc 0, .loc 1], [0, j + 1], [cs c, es]) := by
    simp [isoArgs, hj, he]
  unfold iso
  rw [q]
  dsimp only
  rw [e]
  dsimp only
  rw [noLoc_mem he hd]
  have f : allFree [0, j + 1].length [cs c', es] = true := by simp [allFree, he]
  rw [f, if_pos (show (true && true) = true from rfl)]
  show R.ok d (wr _ _ _ _) = _
  congr 1
  simp [wr, set_id hj]
/-- one of several ints -/
theorem someI_x (c : Cup) (is : List Int) (h0 : 0 < is.length) (h1 : is.length < 2 ^ 60) : ∃ i ∈ is, ∃ c' : Cup, ∀ (t : Store) (j : Nat), t[j]? = some (is.map D.int) → iso w_some [.loc 0, .loc (j + 1)] (cs c :: t) = .ok (.int i) (cs c' :: t) := by
  have hn : ∀ is : List Int, noLocs (is.map D.int) = true := fun is => by
    induction is with
    | nil => rfl
    | cons i is ih => rw [List.map_cons]; unfold noLocs; rw [ih]; rfl
  obtain ⟨d, hd, c', e⟩ := some_x c (is.map D.int) (hn is) (by simpa using h0) (by simpa using h1)
  obtain ⟨i, hi, rfl⟩ := List.mem_map.mp hd
  exact ⟨i, hi, c', e⟩
theorem cup_x (ns : List Int) (hl : ns.length ≤ 63) (hb : ∀ z ∈ ns, Builtin.Int.intBits z ≤ 1048576) : ∃ (x y z : List D) (c : Cup), w_cup ns [.scr] [] = .ok (.loc 3) [x, y, z, cs c] := by
  have fin : ∀ z : Int, 0 ≤ z → 0 ≤ (if 1000000000000000000 ≤ z then z.fdiv 277 else 0) ∧ 0 ≤ (z * 1039 + 85447).fmod 1048576 ∧ (z * 1039 + 85447).fmod 1048576 < 1048576 := fun z hz => ⟨by
    split
    · exact Int.fdiv_nonneg hz (by decide)
    · decide, Int.fmod_nonneg (by omega) (by decide), Int.fmod_lt_of_pos _ (by decide)⟩
  have v : ∀ i, cDiv i 277 = true := fun i => by unfold cDiv; decide
  have p : cPow 10 18 = true := by decide
  cases ns with
  | nil =>
    have k : cMul 0 1039 = true := by decide
    refine ⟨[], [.int 0], [.int 0], ⟨0, 85447, by decide, by decide, by decide⟩, ?_⟩
    simp [fnM, sSeq, sNil, sIf, sAsg, sPar, sPar3, sRet, sSet, sExpr, sFor, sRaise, mraise, mbind, mpure, mbad, mtot, mBl, mTruth, truth, eBin, eUn, eVar, eC, eCall, eChain, eAnd, eOr, eNot, eIf, eTup, eLst, eFn, eLc, eSl, pNone, pSome, bNot, bAnd, bOr, aCons, aNil, lift, f1, f2, gIx, atI, ixN, gLen, gAbs, gInt, gTuple, gIsi, tyOf, isTy, gAdd, gMul, iBin_t, iMod_k, iDiv_k, iMul_k, iPow_k, iNeg, tAddO, gIsN, isNon, gIn, inF, eqF, gEqB, tp_non, tp_bl, tp_int, tp_str, tp_tup, tp_loc, allPy, PyData.eqv, PyData.eqvAll, Tg.set, Tgs.set, iOf, nxOf, iRange, rBound, forR, forT, lcR, lcT, forL, lcL, rangeD, wipeE, cTrue, noLoc, noLocs, gAll, allBl, ieq, w_cup, wb_cup, cs, gList, p, v, lAdd, k]
  | cons z ns =>
    have hz := hb z List.mem_cons_self
    have habs : ∀ w : Int, w.natAbs = z.natAbs → cMul w 1039 = true := fun w h => cMul_of (m := 1048576) (n := 1000) (PySem.intBits_le_of_natAbs (by omega) hz) (by decide) (by decide)
    have hl' : ns.length ≤ 62 := by simpa using hl
    have hl2 : ns.length + 1 + 1 ≤ 16777216 := by omega
    have hl3 : ns.length + 1 ≤ 16777216 := by omega
    have hp : (0 : Int) < ↑ns.length + 1 + 1 := by omega
    have k1 : cMul z 1039 = true := habs z rfl
    have k2 : cMul (-z) 1039 = true := habs (-z) (by omega)
    by_cases h : z < 0
    · by_cases h2 : 1000000000000000000 ≤ -z
      · have f := fin (-z) (by omega)
        rw [if_pos h2] at f
        refine ⟨(z :: ns).map D.int, [.int 0], (z :: ns).map D.int ++ [.int 0], ⟨_, _, f.1, f.2.1, f.2.2⟩, ?_⟩
        simp [fnM, sSeq, sNil, sIf, sAsg, sPar, sPar3, sRet, sSet, sExpr, sFor, sRaise, mraise, mbind, mpure, mbad, mtot, mBl, mTruth, truth, eBin, eUn, eVar, eC, eCall, eChain, eAnd, eOr, eNot, eIf, eTup, eLst, eFn, eLc, eSl, pNone, pSome, bNot, bAnd, bOr, aCons, aNil, lift, f1, f2, gIx, atI, ixN, gLen, gAbs, gInt, gTuple, gIsi, tyOf, isTy, gAdd, gMul, iBin_t, iMod_k, iDiv_k, iMul_k, iPow_k, iNeg, tAddO, gIsN, isNon, gIn, inF, eqF, gEqB, tp_non, tp_bl, tp_int, tp_str, tp_tup, tp_loc, allPy, PyData.eqv, PyData.eqvAll, Tg.set, Tgs.set, iOf, nxOf, iRange, rBound, forR, forT, lcR, lcT, forL, lcL, rangeD, wipeE, cTrue, noLoc, noLocs, gAll, allBl, ieq, w_cup, wb_cup, cs, gList, p, v, lAdd, k1, k2, h, h2, hl2, hl3, hp]
      · have f := fin (-z) (by omega)
        rw [if_neg h2] at f
        refine ⟨(z :: ns).map D.int, [.int 0], (z :: ns).map D.int ++ [.int 0], ⟨_, _, f.1, f.2.1, f.2.2⟩, ?_⟩
        simp [fnM, sSeq, sNil, sIf, sAsg, sPar, sPar3, sRet, sSet, sExpr, sFor, sRaise, mraise, mbind, mpure, mbad, mtot, mBl, mTruth, truth, eBin, eUn, eVar, eC, eCall, eChain, eAnd, eOr, eNot, eIf, eTup, eLst, eFn, eLc, eSl, pNone, pSome, bNot, bAnd, bOr, aCons, aNil, lift, f1, f2, gIx, atI, ixN, gLen, gAbs, gInt, gTuple, gIsi, tyOf, isTy, gAdd, gMul, iBin_t, iMod_k, iDiv_k, iMul_k, iPow_k, iNeg, tAddO, gIsN, isNon, gIn, inF, eqF, gEqB, tp_non, tp_bl, tp_int, tp_str, tp_tup, tp_loc, allPy, PyData.eqv, PyData.eqvAll, Tg.set, Tgs.set, iOf, nxOf, iRange, rBound, forR, forT, lcR, lcT, forL, lcL, rangeD, wipeE, cTrue, noLoc, noLocs, gAll, allBl, ieq, w_cup, wb_cup, cs, gList, p, v, lAdd, k1, k2, h, h2, hl2, hl3, hp]
    · by_cases h2 : 1000000000000000000 ≤ z
      · have f := fin z (by omega)
        rw [if_pos h2] at f
        refine ⟨(z :: ns).map D.int, [.int 0], (z :: ns).map D.int ++ [.int 0], ⟨_, _, f.1, f.2.1, f.2.2⟩, ?_⟩
        simp [fnM, sSeq, sNil, sIf, sAsg, sPar, sPar3, sRet, sSet, sExpr, sFor, sRaise, mraise, mbind, mpure, mbad, mtot, mBl, mTruth, truth, eBin, eUn, eVar, eC, eCall, eChain, eAnd, eOr, eNot, eIf, eTup, eLst, eFn, eLc, eSl, pNone, pSome, bNot, bAnd, bOr, aCons, aNil, lift, f1, f2, gIx, atI, ixN, gLen, gAbs, gInt, gTuple, gIsi, tyOf, isTy, gAdd, gMul, iBin_t, iMod_k, iDiv_k, iMul_k, iPow_k, iNeg, tAddO, gIsN, isNon, gIn, inF, eqF, gEqB, tp_non, tp_bl, tp_int, tp_str, tp_tup, tp_loc, allPy, PyData.eqv, PyData.eqvAll, Tg.set, Tgs.set, iOf, nxOf, iRange, rBound, forR, forT, lcR, lcT, forL, lcL, rangeD, wipeE, cTrue, noLoc, noLocs, gAll, allBl, ieq, w_cup, wb_cup, cs, gList, p, v, lAdd, k1, k2, h, h2, hl2, hl3, hp]
      · have f := fin z (by omega)
        rw [if_neg h2] at f
        refine ⟨(z :: ns).map D.int, [.int 0], (z :: ns).map D.int ++ [.int 0], ⟨_, _, f.1, f.2.1, f.2.2⟩, ?_⟩
        simp [fnM, sSeq, sNil, sIf, sAsg, sPar, sPar3, sRet, sSet, sExpr, sFor, sRaise, mraise, mbind, mpure, mbad, mtot, mBl, mTruth, truth, eBin, eUn, eVar, eC, eCall, eChain, eAnd, eOr, eNot, eIf, eTup, eLst, eFn, eLc, eSl, pNone, pSome, bNot, bAnd, bOr, aCons, aNil, lift, f1, f2, gIx, atI, ixN, gLen, gAbs, gInt, gTuple, gIsi, tyOf, isTy, gAdd, gMul, iBin_t, iMod_k, iDiv_k, iMul_k, iPow_k, iNeg, tAddO, gIsN, isNon, gIn, inF, eqF, gEqB, tp_non, tp_bl, tp_int, tp_str, tp_tup, tp_loc, allPy, PyData.eqv, PyData.eqvAll, Tg.set, Tgs.set, iOf, nxOf, iRange, rBound, forR, forT, lcR, lcT, forL, lcL, rangeD, wipeE, cTrue, noLoc, noLocs, gAll, allBl, ieq, w_cup, wb_cup, cs, gList, p, v, lAdd, k1, k2, h, h2, hl2, hl3, hp]
/-! ### likeness of plain data -/
mutual
/-- plain data of at most so many storeys -/
def plainD : Nat → D → Bool
  | _, .non | _, .bl _ | _, .int _ => true
  | _, .str s => decide (s.length ≤ 1000) && (s.cps.all fun c => decide (c < 0x110000))
  | 0, .tup _ => false
  | n + 1, .tup ds => decide (ds.length ≤ 100000) && plains n ds
  | _, _ => false
def plains : Nat → List D → Bool
  | _, [] => true
  | n, d :: ds => plainD n d && plains n ds
end
mutual
def likeP : D → D → Bool
  | .non, .non => true
  | .bl a, .bl b => a == b
  | .int a, .int b => decide (a = b)
  | .str a, .str b => a == b
  | .tup a, .tup b => likePs a b
  | _, _ => false
def likePs : List D → List D → Bool
  | [], [] => true
  | d :: ds, e :: es => likeP d e && likePs ds es
  | _, _ => false
end

end Mir
/-! MirX: comprehensions and loops as plainD functions; the likeness of plain data. -/
namespace Mir
open PySem _root_.L2 PyProof.Rows
/-- a comprehension that leaves the store -/
theorem lcN_pure {nx : Nx} {t : Tg} {c : EM Bool} {e : EM D} {env : Env} {st : Store} {ds : List D} {p : D → Bool} {f : D → D} (h : ∀ i, nx i st = some ds[i]?)
    (hd : ∀ d ∈ ds, ∃ env1, Tg.set t d env = some env1 ∧ c env1 st = .ok (p d) st ∧ (p d = true → e env1 st = .ok (f d) st)) (hl : ds.length ≤ 16777216) :
    ∀ (n i : Nat) (acc : List D), ds.length - i < n → i ≤ ds.length → acc.length ≤ i → lcN nx t c e env n i acc st = .ok (.loc st.length) (st ++ [acc ++ ((ds.drop i).filter p).map f])
  | 0, i, acc, hn, _, _ => absurd hn (Nat.not_lt_zero _)
  | n + 1, i, acc, hn, hi, ha => by
    rw [lcN_succ, h]
    by_cases hik : i < ds.length
    · obtain ⟨env1, e1, e2, e3⟩ := hd ds[i] (List.getElem_mem hik)
      rw [List.getElem?_eq_getElem hik, List.drop_eq_getElem_cons hik]
      dsimp only
      rw [e1]
      dsimp only
      unfold mbind mtot
      rw [e2]
      dsimp only
      by_cases hp : p ds[i] = true
      · rw [hp, if_pos rfl, e3 hp]
        dsimp only
        rw [if_pos (by omega), lcN_pure h hd hl n (i + 1) _ (by omega) (by omega) (by simp; omega), List.filter_cons, if_pos hp]
        simp
      · rw [if_neg hp, lcN_pure h hd hl n (i + 1) _ (by omega) (by omega) (by omega), List.filter_cons, if_neg hp]
    · rw [List.getElem?_eq_none (by omega), List.drop_eq_nil_of_le (by omega)]
      simp
theorem lcN_pure0 {nx : Nx} {t : Tg} {c : EM Bool} {e : EM D} {env : Env} {st : Store} {ds : List D} {p : D → Bool} {f : D → D} (h : ∀ i, nx i st = some ds[i]?)
    (hd : ∀ d ∈ ds, ∃ env1, Tg.set t d env = some env1 ∧ c env1 st = .ok (p d) st ∧ (p d = true → e env1 st = .ok (f d) st)) (hl : ds.length ≤ 16777216) :
    lcN nx t c e env FUEL 0 [] st = .ok (.loc st.length) (st ++ [(ds.filter p).map f]) := by
  rw [lcN_pure h hd hl FUEL 0 [] (Nat.lt_of_le_of_lt (Nat.sub_le _ _) (Nat.lt_of_le_of_lt hl (by decide))) (Nat.zero_le _) (Nat.le_refl _)]
  simp
def zipD : List D → List D → List D
  | x :: xs, y :: ys => .tup [x, y] :: zipD xs ys
  | _, _ => []
theorem zipD_len : ∀ (xs ys : List D), (zipD xs ys).length ≤ xs.length
  | [], _ => by simp [zipD]
  | x :: xs, [] => by simp [zipD]
  | x :: xs, y :: ys => by simp only [zipD, List.length_cons]; have := zipD_len xs ys; omega
theorem nxZip_list {a b : Nx} {st : Store} : ∀ {xs ys : List D} (i : Nat), a i st = some xs[i]? → b i st = some ys[i]? → nxZip a b i st = some (zipD xs ys)[i]? := fun {xs ys} i ha hb => by
  unfold nxZip
  rw [ha, hb]
  clear ha hb
  induction xs generalizing ys i with
  | nil => simp [zipD] <;> (cases ys[i]? <;> rfl)
  | cons x xs ih => cases ys with
    | nil => simp [zipD] <;> (cases (x :: xs)[i]? <;> rfl)
    | cons y ys => cases i with
      | zero => rfl
      | succ i => simpa [zipD] using ih i
theorem so_non (st : Store) : iso w_sort [.non] st = .ok (.int 0) st := iso_pure (by simp [fnM, sSeq, sNil, sIf, sAsg, sPar, sPar3, sRet, sSet, sExpr, sFor, sRaise, mraise, mbind, mpure, mbad, mtot, mBl, mTruth, truth, eBin, eUn, eVar, eC, eCall, eChain, eAnd, eOr, eNot, eIf, eTup, eLst, eFn, eLc, eSl, pNone, pSome, bNot, bAnd, bOr, aCons, aNil, lift, f1, f2, gIx, atI, ixN, gLen, gAbs, gInt, gTuple, gIsi, tyOf, isTy, gAdd, gMul, iBin_t, iMod_k, iDiv_k, iMul_k, iPow_k, iNeg, tAddO, gIsN, isNon, gIn, inF, eqF, gEqB, tp_non, tp_bl, tp_int, tp_str, tp_tup, tp_loc, allPy, PyData.eqv, PyData.eqvAll, Tg.set, Tgs.set, iOf, nxOf, iRange, rBound, forR, forT, lcR, lcT, forL, lcL, rangeD, wipeE, cTrue, noLoc, noLocs, gAll, allBl, ieq, Rets, w_sort, wb_sort]) rfl rfl st
theorem so_bl (b : Bool) (st : Store) : iso w_sort [.bl b] st = .ok (.int 1) st := iso_pure (by simp [fnM, sSeq, sNil, sIf, sAsg, sPar, sPar3, sRet, sSet, sExpr, sFor, sRaise, mraise, mbind, mpure, mbad, mtot, mBl, mTruth, truth, eBin, eUn, eVar, eC, eCall, eChain, eAnd, eOr, eNot, eIf, eTup, eLst, eFn, eLc, eSl, pNone, pSome, bNot, bAnd, bOr, aCons, aNil, lift, f1, f2, gIx, atI, ixN, gLen, gAbs, gInt, gTuple, gIsi, tyOf, isTy, gAdd, gMul, iBin_t, iMod_k, iDiv_k, iMul_k, iPow_k, iNeg, tAddO, gIsN, isNon, gIn, inF, eqF, gEqB, tp_non, tp_bl, tp_int, tp_str, tp_tup, tp_loc, allPy, PyData.eqv, PyData.eqvAll, Tg.set, Tgs.set, iOf, nxOf, iRange, rBound, forR, forT, lcR, lcT, forL, lcL, rangeD, wipeE, cTrue, noLoc, noLocs, gAll, allBl, ieq, Rets, w_sort, wb_sort]) rfl rfl st
theorem so_int (i : Int) (st : Store) : iso w_sort [.int i] st = .ok (.int 2) st := iso_pure (by simp [fnM, sSeq, sNil, sIf, sAsg, sPar, sPar3, sRet, sSet, sExpr, sFor, sRaise, mraise, mbind, mpure, mbad, mtot, mBl, mTruth, truth, eBin, eUn, eVar, eC, eCall, eChain, eAnd, eOr, eNot, eIf, eTup, eLst, eFn, eLc, eSl, pNone, pSome, bNot, bAnd, bOr, aCons, aNil, lift, f1, f2, gIx, atI, ixN, gLen, gAbs, gInt, gTuple, gIsi, tyOf, isTy, gAdd, gMul, iBin_t, iMod_k, iDiv_k, iMul_k, iPow_k, iNeg, tAddO, gIsN, isNon, gIn, inF, eqF, gEqB, tp_non, tp_bl, tp_int, tp_str, tp_tup, tp_loc, allPy, PyData.eqv, PyData.eqvAll, Tg.set, Tgs.set, iOf, nxOf, iRange, rBound, forR, forT, lcR, lcT, forL, lcL, rangeD, wipeE, cTrue, noLoc, noLocs, gAll, allBl, ieq, Rets, w_sort, wb_sort]) rfl rfl st
theorem so_str (s : Str) (st : Store) : iso w_sort [.str s] st = .ok (.int 3) st := iso_pure (by simp [fnM, sSeq, sNil, sIf, sAsg, sPar, sPar3, sRet, sSet, sExpr, sFor, sRaise, mraise, mbind, mpure, mbad, mtot, mBl, mTruth, truth, eBin, eUn, eVar, eC, eCall, eChain, eAnd, eOr, eNot, eIf, eTup, eLst, eFn, eLc, eSl, pNone, pSome, bNot, bAnd, bOr, aCons, aNil, lift, f1, f2, gIx, atI, ixN, gLen, gAbs, gInt, gTuple, gIsi, tyOf, isTy, gAdd, gMul, iBin_t, iMod_k, iDiv_k, iMul_k, iPow_k, iNeg, tAddO, gIsN, isNon, gIn, inF, eqF, gEqB, tp_non, tp_bl, tp_int, tp_str, tp_tup, tp_loc, allPy, PyData.eqv, PyData.eqvAll, Tg.set, Tgs.set, iOf, nxOf, iRange, rBound, forR, forT, lcR, lcT, forL, lcL, rangeD, wipeE, cTrue, noLoc, noLocs, gAll, allBl, ieq, Rets, w_sort, wb_sort]) rfl rfl st
theorem so_tup (ds : List D) (h : noLocs ds = true) (st : Store) : iso w_sort [.tup ds] st = .ok (.int 4) st := iso_pure (by simp [fnM, sSeq, sNil, sIf, sAsg, sPar, sPar3, sRet, sSet, sExpr, sFor, sRaise, mraise, mbind, mpure, mbad, mtot, mBl, mTruth, truth, eBin, eUn, eVar, eC, eCall, eChain, eAnd, eOr, eNot, eIf, eTup, eLst, eFn, eLc, eSl, pNone, pSome, bNot, bAnd, bOr, aCons, aNil, lift, f1, f2, gIx, atI, ixN, gLen, gAbs, gInt, gTuple, gIsi, tyOf, isTy, gAdd, gMul, iBin_t, iMod_k, iDiv_k, iMul_k, iPow_k, iNeg, tAddO, gIsN, isNon, gIn, inF, eqF, gEqB, tp_non, tp_bl, tp_int, tp_str, tp_tup, tp_loc, allPy, PyData.eqv, PyData.eqvAll, Tg.set, Tgs.set, iOf, nxOf, iRange, rBound, forR, forT, lcR, lcT, forL, lcL, rangeD, wipeE, cTrue, noLoc, noLocs, gAll, allBl, ieq, Rets, w_sort, wb_sort]) (by simp [noLocs, noLoc, h]) rfl st
/-- a call by one list of the store that leaves it -/
theorem iso_l1 {φ : List D → M D} {n : Nat} {es : List D} {v : D} {st g : Store} (hn : st[n]? = some es) (he : noLocs es = true) (h : φ [.loc 0] [es] = .ok v (es :: g)) (hv : noLoc v = true) : iso φ [.loc n] st = .ok v st := by
  have q : isoArgs st [.loc n] [] [] = some ([.loc 0], [n], [es]) := by simp [isoArgs, hn, he]
  unfold iso
  rw [q]
  dsimp only
  rw [h]
  dsimp only
  rw [hv]
  have f : allFree [n].length (es :: g) = true := by simp [allFree, he]
  rw [f, if_pos (show (true && true) = true from rfl)]
  congr 1
  simp [wr, set_id hn]
theorem iso_l2 {φ : List D → M D} {n m : Nat} {es fs : List D} {v : D} {st g : Store} (hn : st[n]? = some es) (hm : st[m]? = some fs) (hnm : n ≠ m) (he : noLocs es = true) (hf : noLocs fs = true) (h : φ [.loc 0, .loc 1] [es, fs] = .ok v (es :: fs :: g)) (hv : noLoc v = true) : iso φ [.loc n, .loc m] st = .ok v st := by
  have q : isoArgs st [.loc n, .loc m] [] [] = some ([.loc 0, .loc 1], [n, m], [es, fs]) := by simp [isoArgs, hn, hm, he, hf, Ne.symm hnm]
  unfold iso
  rw [q]
  dsimp only
  rw [h]
  dsimp only
  rw [hv]
  have f : allFree [n, m].length (es :: fs :: g) = true := by simp [allFree, he, hf]
  rw [f, if_pos (show (true && true) = true from rfl)]
  congr 1
  simp [wr, set_id hn, set_id hm]
theorem so_loc {n : Nat} {es : List D} {st : Store} (hn : st[n]? = some es) (he : noLocs es = true) : iso w_sort [.loc n] st = .ok (.int 5) st := iso_l1 (g := []) hn he (by simp [fnM, sSeq, sNil, sIf, sAsg, sPar, sPar3, sRet, sSet, sExpr, sFor, sRaise, mraise, mbind, mpure, mbad, mtot, mBl, mTruth, truth, eBin, eUn, eVar, eC, eCall, eChain, eAnd, eOr, eNot, eIf, eTup, eLst, eFn, eLc, eSl, pNone, pSome, bNot, bAnd, bOr, aCons, aNil, lift, f1, f2, gIx, atI, ixN, gLen, gAbs, gInt, gTuple, gIsi, tyOf, isTy, gAdd, gMul, iBin_t, iMod_k, iDiv_k, iMul_k, iPow_k, iNeg, tAddO, gIsN, isNon, gIn, inF, eqF, gEqB, tp_non, tp_bl, tp_int, tp_str, tp_tup, tp_loc, allPy, PyData.eqv, PyData.eqvAll, Tg.set, Tgs.set, iOf, nxOf, iRange, rBound, forR, forT, lcR, lcT, forL, lcL, rangeD, wipeE, cTrue, noLoc, noLocs, gAll, allBl, ieq, w_sort, wb_sort]) rfl
theorem plain_noLoc : ∀ (n : Nat) (d : D), plainD n d = true → noLoc d = true
  | _, .non, _ | _, .bl _, _ | _, .int _, _ => rfl
  | _, .str s, _ => rfl
  | 0, .tup _, h => by simp [plainD] at h
  | n + 1, .tup ds, h => by
    have : ∀ ds : List D, plains n ds = true → noLocs ds = true := fun ds => by
      induction ds with
      | nil => intro _; rfl
      | cons d ds ih =>
        intro h
        simp only [plains, Bool.and_eq_true] at h
        simp only [noLocs, plain_noLoc n d h.1, ih h.2, Bool.and_self]
    simp only [plainD, Bool.and_eq_true] at h
    simp only [noLoc]
    exact this ds h.2
  | n, .loc _, h => by cases n <;> simp [plainD] at h
  | n, .ty _, h | n, .fn _, h | n, .scr, h | n, .exn _, h | n, .raw _, h => by cases n <;> simp [plainD] at h
theorem plains_noLocs {n : Nat} : ∀ ds : List D, plains n ds = true → noLocs ds = true
  | [], _ => rfl
  | d :: ds, h => by
    simp only [plains, Bool.and_eq_true] at h
    simp only [noLocs, plain_noLoc n d h.1, plains_noLocs ds h.2, Bool.and_self]
theorem plains_mem {n : Nat} : ∀ {ds : List D} {d : D}, plains n ds = true → d ∈ ds → plainD n d = true
  | [], _, _, h => by cases h
  | e :: es, d, h, hm => by
    simp only [plains, Bool.and_eq_true] at h
    rcases List.mem_cons.mp hm with rfl | hm
    · exact h.1
    · exact plains_mem h.2 hm
/-- the pair that a zip gives is unlike -/
def unl (d : D) : Bool := match d with
  | .tup [x, y] => !likeP x y
  | _ => false
theorem likePs_zip : ∀ (xs ys : List D), likePs xs ys = (decide (xs.length = ys.length) && ((zipD xs ys).filter unl).isEmpty)
  | [], [] => rfl
  | [], y :: ys => by simp [likePs]
  | x :: xs, [] => by simp [likePs]
  | x :: xs, y :: ys => by
    simp only [likePs, zipD, List.filter_cons, unl, likePs_zip xs ys, List.length_cons]
    by_cases h : likeP x y = true
    · simp [h]
    · simp [h]
theorem zipD_mem : ∀ {xs ys : List D} {d : D}, d ∈ zipD xs ys → ∃ x y, x ∈ xs ∧ y ∈ ys ∧ d = .tup [x, y]
  | [], _, _, h => by simp [zipD] at h
  | x :: xs, [], _, h => by simp [zipD] at h
  | x :: xs, y :: ys, d, h => by
    simp only [zipD] at h
    rcases List.mem_cons.mp h with rfl | h
    · exact ⟨x, y, List.mem_cons_self, List.mem_cons_self, rfl⟩
    · obtain ⟨a, b, h1, h2, h3⟩ := zipD_mem h
      exact ⟨a, b, List.mem_cons_of_mem _ h1, List.mem_cons_of_mem _ h2, h3⟩
theorem ones_eq (xs : List D) (st : Store) : allPy (toPy st 39) (xs.map fun _ => D.int 1) = some (xs.map fun _ => PyData.int 1) := by
  induction xs with
  | nil => rfl
  | cons x xs ih => simp only [List.map_cons, allPy, ih, tp_int]
abbrev wlikeC (n : Nat) : EM Bool := bNot fun env => mTruth ((eFn 2 (w_like n) (aCons (eVar 3) (aCons (eVar 4) aNil))) env)
abbrev zipT : Tg := .tp (.cons (.nm 3) (.cons (.nm 4) .nil))
theorem wlike_lc {n k : Nat} {xs ys : List D} {a b : Nx} {st : Store} {o0 o1 o2 : Option D} (ih : ∀ d e, plainD k d = true → plainD k e = true → Rets (w_like n [d, e] []) (.bl (likeP d e))) (hx : plains k xs = true) (hy : plains k ys = true) (hl : xs.length ≤ 100000) (ha : ∀ i, a i st = some xs[i]?) (hb : ∀ i, b i st = some ys[i]?) :
    lcN (nxZip a b) zipT (wlikeC n) (eC (.int 1)) [o0, o1, o2, none, none] FUEL 0 [] st = .ok (.loc st.length) (st ++ [((zipD xs ys).filter unl).map fun _ => .int 1]) := by
  refine lcN_pure0 (ds := zipD xs ys) (p := unl) (f := fun _ => .int 1) (fun i => nxZip_list i (ha i) (hb i)) (fun d hd => ?_) (by have := zipD_len xs ys; omega)
  obtain ⟨x, y, h1, h2, rfl⟩ := zipD_mem hd
  have px := plains_mem hx h1
  have py := plains_mem hy h2
  have e := iso_pure (ih x y px py) (by simp [noLocs, plain_noLoc k x px, plain_noLoc k y py]) rfl st
  refine ⟨[o0, o1, o2, some x, some y], rfl, ?_, fun _ => rfl⟩
  simp [fnM, sSeq, sNil, sIf, sAsg, sPar, sPar3, sRet, sSet, sExpr, sFor, sRaise, mraise, mbind, mpure, mbad, mtot, mBl, mTruth, truth, eBin, eUn, eVar, eC, eCall, eChain, eAnd, eOr, eNot, eIf, eTup, eLst, eFn, eLc, eSl, pNone, pSome, bNot, bAnd, bOr, aCons, aNil, lift, f1, f2, gIx, atI, ixN, gLen, gAbs, gInt, gTuple, gIsi, tyOf, isTy, gAdd, gMul, iBin_t, iMod_k, iDiv_k, iMul_k, iPow_k, iNeg, tAddO, gIsN, isNon, gIn, inF, eqF, gEqB, tp_non, tp_bl, tp_int, tp_str, tp_tup, tp_loc, allPy, PyData.eqv, PyData.eqvAll, Tg.set, Tgs.set, iOf, nxOf, iRange, rBound, forR, forT, lcR, lcT, forL, lcL, rangeD, wipeE, cTrue, noLoc, noLocs, gAll, allBl, ieq, wlikeC, e, unl]
theorem wlike_tail {xs ys : List D} {st : Store} : gEq (.loc st.length) (.loc (st.length + 1)) ((st ++ [((zipD xs ys).filter unl).map fun _ => D.int 1]) ++ [[]]) = some (.bl ((zipD xs ys).filter unl).isEmpty, (st ++ [((zipD xs ys).filter unl).map fun _ => D.int 1]) ++ [[]]) := by
  have g1 : ((st ++ [((zipD xs ys).filter unl).map fun _ => D.int 1]) ++ [[]])[st.length]? = some (((zipD xs ys).filter unl).map fun _ => D.int 1) := by simp
  have g2 : ((st ++ [((zipD xs ys).filter unl).map fun _ => D.int 1]) ++ [[]])[st.length + 1]? = some [] := by simp
  unfold gEq gEqB
  simp only [tp_loc, g1, g2, ones_eq, allPy]
  cases (zipD xs ys).filter unl <;> simp [PyData.eqv, PyData.eqvAll]
theorem like_step {n k : Nat} {xs ys : List D} {a b : Nx} {st : Store} {o0 o1 sv : D} (ih : ∀ d e, plainD k d = true → plainD k e = true → Rets (w_like n [d, e] []) (.bl (likeP d e))) (hx : plains k xs = true) (hy : plains k ys = true) (hl : xs.length ≤ 100000) (ha : ∀ i, a i st = some xs[i]?) (hb : ∀ i, b i st = some ys[i]?)
    (hz : iZipM (aCons (eVar 0) (aCons (eVar 1) aNil)) [some o0, some o1, some sv, none, none] st = .ok (nxZip a b) st)
    (hg : gLen o0 st = some (.int xs.length, st)) (hg2 : gLen o1 st = some (.int ys.length, st)) :
    (eAnd (eBin gEq (eCall (f1 gLen) (aCons (eVar 0) aNil)) (eCall (f1 gLen) (aCons (eVar 1) aNil))) (eBin gEq (eLc (iZipM (aCons (eVar 0) (aCons (eVar 1) aNil))) zipT (wlikeC n) (eC (.int 1)) [3, 4]) (eLst aNil))) [some o0, some o1, some sv, none, none] st = .ok (.bl (likePs xs ys)) (if xs.length = ys.length then (st ++ [((zipD xs ys).filter unl).map fun _ => D.int 1]) ++ [[]] else st) := by
  have key := wlike_lc (o0 := some o0) (o1 := some o1) (o2 := some sv) ih hx hy hl ha hb
  have tail := wlike_tail (xs := xs) (ys := ys) (st := st)
  rw [likePs_zip]
  have e1 : (eLc (iZipM (aCons (eVar 0) (aCons (eVar 1) aNil))) zipT (wlikeC n) (eC (.int 1)) [3, 4]) [some o0, some o1, some sv, none, none] st = .ok (.loc st.length) (st ++ [((zipD xs ys).filter unl).map fun _ => D.int 1]) := by
    unfold eLc mbind
    rw [hz]
    exact key
  have e2 : (eBin gEq (eLc (iZipM (aCons (eVar 0) (aCons (eVar 1) aNil))) zipT (wlikeC n) (eC (.int 1)) [3, 4]) (eLst aNil)) [some o0, some o1, some sv, none, none] st = .ok (.bl ((zipD xs ys).filter unl).isEmpty) ((st ++ [((zipD xs ys).filter unl).map fun _ => D.int 1]) ++ [[]]) := by
    unfold eBin mbind
    rw [e1]
    have l : (st ++ [((zipD xs ys).filter unl).map fun _ => D.int 1]).length = st.length + 1 := by simp
    simp only [eLst, aNil, mbind, List.length_nil, Nat.zero_le, if_true, l, lift, tail]
  have e3 : (eBin gEq (eCall (f1 gLen) (aCons (eVar 0) aNil)) (eCall (f1 gLen) (aCons (eVar 1) aNil))) [some o0, some o1, some sv, none, none] st = .ok (.bl (decide (xs.length = ys.length))) st := by
    have e : ((xs.length : Int) == ys.length) = decide (xs.length = ys.length) := by
      rw [Bool.eq_iff_iff]; simp; omega
    simp [eBin, eCall, aCons, aNil, eVar, mbind, mpure, f1, lift, hg, hg2, gEqB, tp_int, PyData.eqv, e]
  unfold eAnd mBl mbind
  rw [e3]
  by_cases h : xs.length = ys.length
  · simp only [h, decide_true, if_true, mpure, e2, Bool.true_and]
  · simp [h, mpure]
theorem len_tup {ds : List D} {st : Store} : gLen (.tup ds) st = some (.int ds.length, st) := rfl
theorem len_loc {n : Nat} {ds : List D} {st : Store} (h : st[n]? = some ds) : gLen (.loc n) st = some (.int ds.length, st) := by unfold gLen; dsimp only; rw [h]
theorem sort_p {k : Nat} {d : D} (h : plainD k d = true) : ∃ s : Int, (s = 0 ∨ s = 1 ∨ s = 2 ∨ s = 3 ∨ s = 4) ∧ (∀ st, iso w_sort [d] st = .ok (.int s) st) ∧ (s = 4 ↔ ∃ ds, d = .tup ds) := by
  have hn := plain_noLoc k d h
  cases d with
  | non => exact ⟨0, by simp, so_non, by simp⟩
  | bl b => exact ⟨1, by simp, so_bl b, by simp⟩
  | int i => exact ⟨2, by simp, so_int i, by simp⟩
  | str s => exact ⟨3, by simp, so_str s, by simp⟩
  | tup ds => exact ⟨4, by simp, so_tup ds (by simpa [noLoc] using hn), by simp⟩
  | _ => cases k <;> simp [plainD] at h
theorem like_m : ∀ (k : Nat) (d e : D), plainD k d = true → plainD k e = true → Rets (w_like (k + 1) [d, e] []) (.bl (likeP d e)) := by
  intro k
  have flat : ∀ n k (d e : D), plainD k d = true → plainD k e = true → (∀ xs ys, d = .tup xs → e = .tup ys → Rets (w_like (n + 1) [d, e] []) (.bl (likeP d e))) → Rets (w_like (n + 1) [d, e] []) (.bl (likeP d e)) := fun n k d e hd he tt => by
    have hd' := hd
    have he' := he
    cases d <;> (try (cases k <;> simp [plainD] at hd; done)) <;> cases e <;> (try (cases k <;> simp [plainD] at he; done))
    case tup.tup => exact tt _ _ rfl rfl
    all_goals
      have nd := plain_noLoc k _ hd'
      have ne := plain_noLoc k _ he'
      simp only [noLoc] at nd ne
      show Rets (fnM 2 5 (wb_like (w_like n)) _ []) _
    all_goals try (simp [fnM, sSeq, sNil, sIf, sAsg, sPar, sPar3, sRet, sSet, sExpr, sFor, sRaise, mraise, mbind, mpure, mbad, mtot, mBl, mTruth, truth, eBin, eUn, eVar, eC, eCall, eChain, eAnd, eOr, eNot, eIf, eTup, eLst, eFn, eLc, eSl, pNone, pSome, bNot, bAnd, bOr, aCons, aNil, lift, f1, f2, gIx, atI, ixN, gLen, gAbs, gInt, gTuple, gIsi, tyOf, isTy, gAdd, gMul, iBin_t, iMod_k, iDiv_k, iMul_k, iPow_k, iNeg, tAddO, gIsN, isNon, gIn, inF, eqF, gEqB, tp_non, tp_bl, tp_int, tp_str, tp_tup, tp_loc, allPy, PyData.eqv, PyData.eqvAll, Tg.set, Tgs.set, iOf, nxOf, iRange, rBound, forR, forT, lcR, lcT, forL, lcL, rangeD, wipeE, cTrue, noLoc, noLocs, gAll, allBl, ieq, Rets, wb_like, so_non, so_bl, so_int, so_str, so_tup, likeP, nd, ne]; done)
    · simp only [plainD] at hd he
      cases k <;> (simp only [plainD, Bool.and_eq_true] at hd he; simp [fnM, sSeq, sNil, sIf, sAsg, sPar, sPar3, sRet, sSet, sExpr, sFor, sRaise, mraise, mbind, mpure, mbad, mtot, mBl, mTruth, truth, eBin, eUn, eVar, eC, eCall, eChain, eAnd, eOr, eNot, eIf, eTup, eLst, eFn, eLc, eSl, pNone, pSome, bNot, bAnd, bOr, aCons, aNil, lift, f1, f2, gIx, atI, ixN, gLen, gAbs, gInt, gTuple, gIsi, tyOf, isTy, gAdd, gMul, iBin_t, iMod_k, iDiv_k, iMul_k, iPow_k, iNeg, tAddO, gIsN, isNon, gIn, inF, eqF, gEqB, tp_non, tp_bl, tp_int, tp_str, tp_tup, tp_loc, allPy, PyData.eqv, PyData.eqvAll, Tg.set, Tgs.set, iOf, nxOf, iRange, rBound, forR, forT, lcR, lcT, forL, lcL, rangeD, wipeE, cTrue, noLoc, noLocs, gAll, allBl, ieq, Rets, wb_like, so_str, likeP, hd.2, he.2])
  induction k with
  | zero => exact fun d e hd he => flat 0 0 d e hd he fun xs ys h1 h2 => by subst h1; simp [plainD] at hd
  | succ k ih =>
    exact fun d e hd he => flat (k + 1) (k + 1) d e hd he fun xs ys h1 h2 => by
      subst h1; subst h2
      have nd := plain_noLoc _ _ hd
      have ne := plain_noLoc _ _ he
      simp only [noLoc] at nd ne
      simp only [plainD, Bool.and_eq_true, decide_eq_true_eq] at hd he
      have step := like_step (o0 := .tup xs) (o1 := .tup ys) (sv := .int 4) (st := []) (n := k + 1) ih hd.2 he.2 hd.1 (a := fun i _ => some xs[i]?) (b := fun i _ => some ys[i]?) (fun _ => rfl) (fun _ => rfl) rfl rfl rfl
      show Rets (fnM 2 5 (wb_like (w_like (k + 1))) _ []) _
      simp [fnM, sSeq, sNil, sIf, sAsg, sPar, sPar3, sRet, sSet, sExpr, sFor, sRaise, mraise, mbind, mpure, mbad, mtot, mBl, mTruth, truth, eBin, eUn, eVar, eC, eCall, eChain, eAnd, eOr, eNot, eIf, eTup, eLst, eFn, eLc, eSl, pNone, pSome, bNot, bAnd, bOr, aCons, aNil, lift, f1, f2, gIx, atI, ixN, gLen, gAbs, gInt, gTuple, gIsi, tyOf, isTy, gAdd, gMul, iBin_t, iMod_k, iDiv_k, iMul_k, iPow_k, iNeg, tAddO, gIsN, isNon, gIn, inF, eqF, gEqB, tp_non, tp_bl, tp_int, tp_str, tp_tup, tp_loc, allPy, PyData.eqv, PyData.eqvAll, Tg.set, Tgs.set, iOf, nxOf, iRange, rBound, forR, forT, lcR, lcT, forL, lcL, rangeD, wipeE, cTrue, noLoc, noLocs, gAll, allBl, ieq, Rets, wb_like, so_tup, nd, ne, ↓step, likeP]
theorem like_lists {k : Nat} {xs ys : List D} (hx : plains k xs = true) (hy : plains k ys = true) (hl : xs.length ≤ 100000) : ∃ g, w_like (k + 2) [.loc 0, .loc 1] [xs, ys] = .ok (.bl (likePs xs ys)) (xs :: ys :: g) := by
  have step := like_step (o0 := .loc 0) (o1 := .loc 1) (sv := .int 5) (st := [xs, ys]) (n := k + 1) (like_m k) hx hy hl (a := nxLoc 0) (b := nxLoc 1) (fun _ => rfl) (fun _ => rfl) rfl rfl rfl
  have s0 := so_loc (n := 0) (st := [xs, ys]) rfl (plains_noLocs xs hx)
  have s1 := so_loc (n := 1) (st := [xs, ys]) rfl (plains_noLocs ys hy)
  have e : w_like (k + 2) [.loc 0, .loc 1] [xs, ys] = .ok (.bl (likePs xs ys)) (if xs.length = ys.length then ([xs, ys] ++ [((zipD xs ys).filter unl).map fun _ => D.int 1]) ++ [[]] else [xs, ys]) := by
    show fnM 2 5 (wb_like (w_like (k + 1))) _ _ = _
    simp [fnM, sSeq, sNil, sIf, sAsg, sPar, sPar3, sRet, sSet, sExpr, sFor, sRaise, mraise, mbind, mpure, mbad, mtot, mBl, mTruth, truth, eBin, eUn, eVar, eC, eCall, eChain, eAnd, eOr, eNot, eIf, eTup, eLst, eFn, eLc, eSl, pNone, pSome, bNot, bAnd, bOr, aCons, aNil, lift, f1, f2, gIx, atI, ixN, gLen, gAbs, gInt, gTuple, gIsi, tyOf, isTy, gAdd, gMul, iBin_t, iMod_k, iDiv_k, iMul_k, iPow_k, iNeg, tAddO, gIsN, isNon, gIn, inF, eqF, gEqB, tp_non, tp_bl, tp_int, tp_str, tp_tup, tp_loc, allPy, PyData.eqv, PyData.eqvAll, Tg.set, Tgs.set, iOf, nxOf, iRange, rBound, forR, forT, lcR, lcT, forL, lcL, rangeD, wipeE, cTrue, noLoc, noLocs, gAll, allBl, ieq, wb_like, s0, s1, ↓step]
  rw [e]
  by_cases h : xs.length = ys.length
  · rw [if_pos h]; exact ⟨_, rfl⟩
  · rw [if_neg h]; exact ⟨_, rfl⟩
/-- the likeness of two lists of the store, or of plain data -/
theorem like_p {d e : D} (hd : plainD 7 d = true) (he : plainD 7 e = true) (st : Store) : iso (w_like 8) [d, e] st = .ok (.bl (likeP d e)) st :=
  iso_pure (like_m 7 d e hd he) (by simp [noLocs, plain_noLoc 7 d hd, plain_noLoc 7 e he]) rfl st
def likeBad (i j : Nat) (st : Store) : R D := iso (w_like 8) [.loc i, .loc j] st
def likeR (i j : Nat) (st : Store) : R D := match st[i]?, st[j]? with
  | some xs, some ys => if i ≠ j ∧ plains 6 xs = true ∧ plains 6 ys = true ∧ xs.length ≤ 100000 then .ok (.bl (likePs xs ys)) st else likeBad i j st
  | _, _ => likeBad i j st
theorem like_l (i j : Nat) (st : Store) : iso (w_like 8) [.loc i, .loc j] st = likeR i j st := by
  unfold likeR
  split
  · rename_i xs ys h1 h2
    split
    · rename_i h
      obtain ⟨h3, h4, h5, h6⟩ := h
      obtain ⟨g, e⟩ := like_lists (k := 6) h4 h5 h6
      exact iso_l2 h1 h2 h3 (plains_noLocs _ h4) (plains_noLocs _ h5) e rfl
    · rfl
  · rfl
mutual
theorem likeP_refl : ∀ (k : Nat) (d : D), plainD k d = true → likeP d d = true
  | _, .non, _ => rfl
  | _, .bl b, _ => by simp [likeP]
  | _, .int _, _ => by simp [likeP]
  | _, .str s, _ => by simp [likeP]
  | 0, .tup _, h => by simp [plainD] at h
  | k + 1, .tup ds, h => by
    simp only [plainD, Bool.and_eq_true] at h
    simp only [likeP]
    exact likePs_refl k ds h.2
  | k, .loc _, h | k, .ty _, h | k, .fn _, h | k, .scr, h | k, .exn _, h | k, .raw _, h => by cases k <;> simp [plainD] at h
theorem likePs_refl : ∀ (k : Nat) (ds : List D), plains k ds = true → likePs ds ds = true
  | _, [], _ => rfl
  | k, d :: ds, h => by
    simp only [plains, Bool.and_eq_true] at h
    simp only [likePs, likeP_refl k d h.1, likePs_refl k ds h.2, Bool.and_self]
end
end Mir
/-! MirY: drawn wholes, loops that count, draws in comprehensions, the law's own loop. -/
namespace Mir
open PySem _root_.L2 PyProof.Rows
theorem whole_x (c : Cup) : ∃ (v : Int) (c' : Cup), Builtin.Int.intBits v ≤ 300 ∧ v.natAbs ≤ 10 ^ 80 + 8 ∧ ∀ t, iso w_whole [.loc 0] (cs c :: t) = .ok (.int v) (cs c' :: t) := by
  obtain ⟨g, hg, c1, e1⟩ := someI_x c [7, 100, 1000000, 1000000000000000000000000000000, 100000000000000000000000000000000000000000000000000000000000000000000000000000000] (by decide) (by decide)
  have hg1 : 0 ≤ g ∧ g ≤ 100000000000000000000000000000000000000000000000000000000000000000000000000000000 := by
    have : ∀ i ∈ ([7, 100, 1000000, 1000000000000000000000000000000, 100000000000000000000000000000000000000000000000000000000000000000000000000000000] : List Int), 0 ≤ i ∧ i ≤ 100000000000000000000000000000000000000000000000000000000000000000000000000000000 := by decide
    exact this g hg
  obtain ⟨n, hn, c2, e2⟩ := someI_x c1 [0, 1, 2, 5, g] (by simp) (by simp)
  have hn1 : 0 ≤ n ∧ n ≤ 100000000000000000000000000000000000000000000000000000000000000000000000000000000 := by
    simp at hn
    omega
  obtain ⟨w, c3, w0, w1, e3⟩ := roll_x c2 9 (by decide) (by decide)
  obtain ⟨z, c4, z0, z1, e4⟩ := roll_x c3 2 (by decide) (by decide)
  have k := cMul_of (i := 1000000000000000000000000000000) (j := 100000000000000000000000000000000000000000000000000) (bits_of (n := 200) (by decide)) (bits_of (n := 200) (by decide)) (by decide)
  have p1 : cPow 10 6 = true := by decide
  have p2 : cPow 10 30 = true := by decide
  have p3 : cPow 10 50 = true := by decide
  by_cases h : z = 0
  · exact ⟨n + w, c4, bits_of (by omega), by omega, iso_cup (by simp [fnM, sSeq, sNil, sIf, sAsg, sPar, sPar3, sRet, sSet, sExpr, sFor, sRaise, mraise, mbind, mpure, mbad, mtot, mBl, mTruth, truth, eBin, eUn, eVar, eC, eCall, eChain, eAnd, eOr, eNot, eIf, eTup, eLst, eFn, eLc, eSl, pNone, pSome, bNot, bAnd, bOr, aCons, aNil, lift, f1, f2, gIx, atI, ixN, gLen, gAbs, gInt, gTuple, gIsi, tyOf, isTy, gAdd, gMul, iBin_t, iMod_k, iDiv_k, iMul_k, iPow_k, iNeg, tAddO, gIsN, isNon, gIn, inF, eqF, gEqB, tp_non, tp_bl, tp_int, tp_str, tp_tup, tp_loc, allPy, PyData.eqv, PyData.eqvAll, Tg.set, Tgs.set, iOf, nxOf, iRange, rBound, forR, forT, lcR, lcT, forL, lcL, rangeD, wipeE, cTrue, noLoc, noLocs, gAll, allBl, ieq, RetsC, w_whole, wb_whole, e1, e2, e3, e4, h, p1, p2, p3, k]) rfl rfl⟩
  · exact ⟨-(n + w), c4, bits_of (by omega), by omega, iso_cup (by simp [fnM, sSeq, sNil, sIf, sAsg, sPar, sPar3, sRet, sSet, sExpr, sFor, sRaise, mraise, mbind, mpure, mbad, mtot, mBl, mTruth, truth, eBin, eUn, eVar, eC, eCall, eChain, eAnd, eOr, eNot, eIf, eTup, eLst, eFn, eLc, eSl, pNone, pSome, bNot, bAnd, bOr, aCons, aNil, lift, f1, f2, gIx, atI, ixN, gLen, gAbs, gInt, gTuple, gIsi, tyOf, isTy, gAdd, gMul, iBin_t, iMod_k, iDiv_k, iMul_k, iPow_k, iNeg, tAddO, gIsN, isNon, gIn, inF, eqF, gEqB, tp_non, tp_bl, tp_int, tp_str, tp_tup, tp_loc, allPy, PyData.eqv, PyData.eqvAll, Tg.set, Tgs.set, iOf, nxOf, iRange, rBound, forR, forT, lcR, lcT, forL, lcL, rangeD, wipeE, cTrue, noLoc, noLocs, gAll, allBl, ieq, RetsC, w_whole, wb_whole, e1, e2, e3, e4, h, p1, p2, p3, k]) rfl rfl⟩
/-- a for that counts -/
theorem forL_cnt {t : Tg} {b : SM} {I : Nat → Env → Store → Prop} (N : Nat) : ∀ (ds : List D) (i : Nat) (env : Env) (st : Store), i + ds.length ≤ N → (∀ d ∈ ds, ∀ i env st, i < N → I i env st → ∃ env1, Tg.set t d env = some env1 ∧ OkN (b env1 st) (I (i + 1))) → I i env st → ∃ e s, forL t b ds env st = .ok (.next e) s ∧ I (i + ds.length) e s
  | [], i, env, st, _, _, h => ⟨env, st, rfl, h⟩
  | d :: ds, i, env, st, hN, h, h0 => by
    simp only [List.length_cons] at hN
    obtain ⟨env1, e1, k⟩ := h d List.mem_cons_self i env st (by omega) h0
    obtain ⟨e2, s2, e, i2⟩ := k.ex
    obtain ⟨e3, s3, e', i3⟩ := forL_cnt N ds (i + 1) e2 s2 (by omega) (fun x hx => h x (List.mem_cons_of_mem _ hx)) i2
    refine ⟨e3, s3, ?_, ?_⟩
    · unfold forL
      rw [e1]
      dsimp only
      unfold mbind
      rw [e]
      exact e'
    · rw [List.length_cons, show i + (ds.length + 1) = i + 1 + ds.length by omega]; exact i3
theorem b_addm {i j : Int} {m n : Nat} (h1 : Builtin.Int.intBits i ≤ m) (h2 : Builtin.Int.intBits j ≤ n) : Builtin.Int.intBits (i + j) ≤ max m n + 1 := PySem.intBits_add_le h1 h2
theorem b_subm {i j : Int} {m n : Nat} (h1 : Builtin.Int.intBits i ≤ m) (h2 : Builtin.Int.intBits j ≤ n) : Builtin.Int.intBits (i - j) ≤ max m n + 1 := PySem.intBits_sub_le h1 h2
theorem range_int : ∀ (n : Nat) (lo : Int) (z : D), z ∈ rangeD lo n → ∃ i, z = .int i ∧ lo ≤ i ∧ i < lo + n
  | 0, lo, z, h => by unfold rangeD at h; cases h
  | n + 1, lo, z, h => by
    unfold rangeD at h
    rcases List.mem_cons.mp h with rfl | h
    · exact ⟨_, rfl, by omega, by omega⟩
    · obtain ⟨i, e, h1, h2⟩ := range_int n _ z h
      exact ⟨i, e, by omega, by omega⟩
/-- draws in a comprehension over a range, the store's rest unchanged -/
theorem lcL_draw {t : Tg} {e : EM D} {env : Env} {g : Store} {P : D → Prop} : ∀ (ds acc : List D) (c : Cup), (∀ d ∈ ds, ∃ env1, Tg.set t d env = some env1 ∧ ∀ c, ∃ v c', P v ∧ e env1 (cs c :: g) = .ok v (cs c' :: g)) → acc.length + ds.length ≤ 16777216 →
    ∃ vs c', vs.length = ds.length ∧ (∀ v ∈ vs, P v) ∧ lcL t cTrue e env ds acc (cs c :: g) = .ok (.loc (g.length + 1)) (cs c' :: (g ++ [acc ++ vs]))
  | [], acc, c, _, _ => ⟨[], c, rfl, by simp, by simp [lcL]⟩
  | d :: ds, acc, c, h, hl => by
    obtain ⟨env1, e1, k⟩ := h d List.mem_cons_self
    obtain ⟨v, c1, pv, e2⟩ := k c
    simp only [List.length_cons] at hl
    obtain ⟨vs, c2, hl2, hp, e3⟩ := lcL_draw ds (acc ++ [v]) c1 (fun x hx => h x (List.mem_cons_of_mem _ hx)) (by simp; omega)
    refine ⟨v :: vs, c2, by simp [hl2], ?_, ?_⟩
    · intro w hw
      rcases List.mem_cons.mp hw with rfl | hw
      · exact pv
      · exact hp w hw
    · unfold lcL
      rw [e1]
      simp only [cTrue, mbind, mtot, mpure, if_true, e2]
      rw [if_pos (by omega), e3]
      simp
/-- the law's part over the cup: it says True and leaves a cup -/
def Part (φ : List D → M D) : Prop := ∀ c, ∃ c', RetsC (φ [.loc 0] [cs c]) (.bl true) c'
theorem Part.at_ {φ : List D → M D} (h : Part φ) (c : Cup) (x y z : List D) : ∃ c', iso φ [.loc 3] [x, y, z, cs c] = .ok (.bl true) [x, y, z, cs c'] := by
  obtain ⟨c', e⟩ := h c
  exact ⟨c', by simpa using iso_cupAt (n := 3) (st := [x, y, z, cs c]) (ds := []) e rfl rfl rfl⟩
theorem Part.of {φ : List D → M D} (h : ∀ a b : Int, ∃ g, φ [.loc 0] [[.int a, .int b]] = .ok (.bl true) ([.int a, .int b] :: g)) : Part φ := fun c => by
  obtain ⟨g, e⟩ := h c.a c.b
  refine ⟨c, ?_⟩
  show RetsC (φ [.loc 0] [[.int c.a, .int c.b]]) _ _
  rw [e]
  exact ⟨rfl, rfl⟩
def LawI (x y z : List D) (env : Mir.Env) (st : Store) : Prop := ∃ (o : Option D) (c : Cup), env = [some .scr, some (.loc 3), o] ∧ st = [x, y, z, cs c]
/-! ### loops over few things: turn by turn -/
theorem lcN_more {nx : Nx} {t : Tg} {c : EM Bool} {e : EM D} {env : Mir.Env} : ∀ (k n i : Nat) (acc : List D) (st : Store), k ≤ n → lcN nx t c e env k i acc st ≠ .bad → lcN nx t c e env n i acc st = lcN nx t c e env k i acc st
  | 0, n, i, acc, st, _, h => absurd rfl h
  | k + 1, 0, i, acc, st, hk, _ => absurd hk (by omega)
  | k + 1, n + 1, i, acc, st, hk, h => by
    rw [lcN_succ] at h
    rw [lcN_succ, lcN_succ]
    cases e1 : nx i st with
    | none => rfl
    | some o =>
      rw [e1] at h
      cases o with
      | none => rfl
      | some d =>
        dsimp only at h ⊢
        cases e2 : Tg.set t d env with
        | none => rfl
        | some env1 =>
          rw [e2] at h
          dsimp only at h ⊢
          unfold mbind at h ⊢
          cases e3 : mtot (c env1) st with
          | bad => rfl
          | exc x s => rfl
          | ok b st1 =>
            rw [e3] at h
            dsimp only at h ⊢
            cases b with
            | false => exact lcN_more k n (i + 1) acc st1 (by omega) h
            | true =>
              simp only [reduceIte] at h ⊢
              cases e4 : mtot (e env1) st1 with
              | bad => rfl
              | exc x s => rfl
              | ok y st2 =>
                simp only [e4] at h ⊢
                by_cases hl : acc.length < 16777216
                · rw [if_pos hl] at h ⊢
                  rw [if_pos hl]
                  exact lcN_more k n (i + 1) _ st2 (by omega) h
                · rw [if_neg hl, if_neg hl]
def orR {α : Type} (r s : R α) : R α := match r with
  | .bad => s
  | r => r
def lcK (nx : Nx) (t : Tg) (c : EM Bool) (e : EM D) (env : Mir.Env) : Nat → Nat → List D → M D
  | 0, _, _ => mbad
  | n + 1, i, acc => fun st => match nx i st with
    | none => .bad
    | some none => .ok (.loc st.length) (st ++ [acc])
    | some (some d) => match Tg.set t d env with
      | none => .bad
      | some env1 => mbind (mtot (c env1)) (fun b => if b then mbind (mtot (e env1)) (fun y => if acc.length < 16777216 then lcK nx t c e env n (i + 1) (acc ++ [y]) else mbad) else lcK nx t c e env n (i + 1) acc) st
theorem lcK_eq {nx : Nx} {t : Tg} {c : EM Bool} {e : EM D} {env : Mir.Env} : ∀ (n i : Nat) (acc : List D), lcK nx t c e env n i acc = lcN nx t c e env n i acc
  | 0, _, _ => rfl
  | n + 1, i, acc => by
    funext st
    rw [lcN_succ]
    unfold lcK
    have h : ∀ i acc, lcK nx t c e env n i acc = lcN nx t c e env n i acc := fun i acc => lcK_eq n i acc
    simp only [h]
    all_goals rfl
def lcBad (nx : Nx) (t : Tg) (c : EM Bool) (e : EM D) (env : Mir.Env) (st : Store) : R D := lcN nx t c e env FUEL 0 [] st
theorem lcU (k : Nat) (hk : k ≤ FUEL) {nx : Nx} {t : Tg} {c : EM Bool} {e : EM D} {env : Mir.Env} {st : Store} : lcN nx t c e env FUEL 0 [] st = orR (lcK nx t c e env k 0 [] st) (lcBad nx t c e env st) := by
  rw [lcK_eq]
  cases h : lcN nx t c e env k 0 [] st with
  | bad => rfl
  | _ => rw [lcN_more k FUEL 0 [] st hk (by rw [h]; intro z; cases z), h]; rfl
end Mir
/-! MirR: the mirror run step by step: what each construct does at an environment and a store, its rest as a closed word. -/
namespace Mir
open PySem _root_.L2 PyProof.Rows
def bR {α β : Type} (r : R α) (k : α → Store → R β) : R β := match r with
  | .ok a s => k a s
  | .exc c s => .exc c s
  | .bad => .bad
theorem bR_ok {α β : Type} (a : α) (s : Store) (k : α → Store → R β) : bR (.ok a s) k = k a s := (rfl)
theorem bR_exc {α β : Type} (c : Nat) (s : Store) (k : α → Store → R β) : bR (.exc c s) k = .exc c s := (rfl)
theorem bR_bad {α β : Type} (k : α → Store → R β) : bR .bad k = .bad := (rfl)
theorem mbind_bR {α β : Type} (m : M α) (k : α → M β) (st : Store) : mbind m k st = bR (m st) k := (rfl)
theorem bR_congr {α β : Type} {r : R α} {k k' : α → Store → R β} (h : ∀ a s, k a s = k' a s) : bR r k = bR r k' := by
  unfold bR
  cases r with
  | ok a s => exact h a s
  | _ => rfl
def liftR (o : Option (D × Store)) : R D := match o with
  | some (d, s) => .ok d s
  | none => .bad
theorem liftR_some (d : D) (s : Store) : liftR (some (d, s)) = .ok d s := (rfl)
theorem liftR_none : liftR none = .bad := (rfl)
variable {st : Store} {env : Mir.Env}
-- expressions
def varR (o : Option (Option D)) (st : Store) : R D := match o with
  | some (some d) => .ok d st
  | _ => .bad
theorem varR_some (d : D) : varR (some (some d)) st = .ok d st := (rfl)
theorem r_var {i : Nat} : eVar i env st = varR env[i]? st := (rfl)
theorem r_c {d : D} : eC d env st = .ok d st := (rfl)
def kB2 (g : D → D → O) (x y : D) : M D := fun st => liftR (g x y st)
def kB1 (g : D → D → O) (b : EM D) (env : Mir.Env) (x : D) : M D := fun st => bR (b env st) (kB2 g x)
theorem r_kB2 {g : D → D → O} {x y : D} : kB2 g x y st = liftR (g x y st) := (rfl)
theorem r_kB1 {g : D → D → O} {b : EM D} {x : D} : kB1 g b env x st = bR (b env st) (kB2 g x) := (rfl)
theorem lift_R (o : O) : lift o = fun st => liftR (o st) := by
  funext st
  unfold lift liftR
  cases o st <;> rfl
theorem lift_Rs (o : O) (s : Store) : lift o s = liftR (o s) := by rw [lift_R]
theorem r_bin {g : D → D → O} {a b : EM D} : eBin g a b env st = bR (a env st) (kB1 g b env) := by
  show mbind (a env) _ st = _
  rw [mbind_bR]
  refine bR_congr fun x s => congrFun ?_ s
  unfold kB1 kB2
  show mbind (b env) (fun y => lift (g x y)) = _
  funext s
  rw [mbind_bR]
  exact bR_congr fun y s => lift_Rs _ s
def kUn (g : D → O) (x : D) : M D := fun st => liftR (g x st)
theorem r_kUn {g : D → O} {x : D} : kUn g x st = liftR (g x st) := (rfl)
theorem r_un {g : D → O} {a : EM D} : eUn g a env st = bR (a env st) (kUn g) := by
  show mbind (a env) _ st = _
  rw [mbind_bR]
  exact bR_congr fun x s => lift_Rs _ s
def kC2 (d : D) (ds : List D) : M (List D) := fun st => .ok (d :: ds) st
def kC1 (ms : EM (List D)) (env : Mir.Env) (d : D) : M (List D) := fun st => bR (ms env st) (kC2 d)
theorem r_kC2 {d : D} {ds : List D} : kC2 d ds st = .ok (d :: ds) st := (rfl)
theorem r_kC1 {ms : EM (List D)} {d : D} : kC1 ms env d st = bR (ms env st) (kC2 d) := (rfl)
theorem r_nil : aNil env st = .ok [] st := (rfl)
theorem r_cons {m : EM D} {ms : EM (List D)} : aCons m ms env st = bR (m env st) (kC1 ms env) := (rfl)
def kTup (ds : List D) : M D := fun st => if ds.length ≤ 16777216 then .ok (.tup ds) st else .bad
def kLst (ds : List D) : M D := fun st => if ds.length ≤ 16777216 then .ok (.loc st.length) (st ++ [ds]) else .bad
theorem r_kTup {ds : List D} : kTup ds st = if ds.length ≤ 16777216 then .ok (.tup ds) st else .bad := (rfl)
theorem r_kLst {ds : List D} : kLst ds st = if ds.length ≤ 16777216 then .ok (.loc st.length) (st ++ [ds]) else .bad := (rfl)
theorem r_tup {ms : EM (List D)} : eTup ms env st = bR (ms env st) kTup := by
  show mbind (ms env) _ st = _
  rw [mbind_bR]
  refine bR_congr fun ds s => ?_
  unfold kTup
  by_cases h : ds.length ≤ 16777216
  · rw [if_pos h, if_pos h]; rfl
  · rw [if_neg h, if_neg h]; rfl
theorem r_lst {ms : EM (List D)} : eLst ms env st = bR (ms env st) kLst := (rfl)
def kCall (g : List D → O) (ds : List D) : M D := fun st => liftR (g ds st)
theorem r_kCall {g : List D → O} {ds : List D} : kCall g ds st = liftR (g ds st) := (rfl)
theorem r_call {g : List D → O} {ms : EM (List D)} : eCall g ms env st = bR (ms env st) (kCall g) := by
  show mbind (ms env) _ st = _
  rw [mbind_bR]
  exact bR_congr fun x s => lift_Rs _ s
theorem r_fn {n : Nat} {φ : List D → M D} {ms : EM (List D)} : eFn n φ ms env st = bR (ms env st) (iso φ) := (rfl)
def fnl2 (ms : EM (List D)) (env : Mir.Env) (o : Option (Nat × (List D → M D))) (st : Store) : R D := match o with
  | some (_, φ) => bR (ms env st) (iso φ)
  | none => .bad
theorem r_fnl2 {ms : EM (List D)} {n : Nat} {φ : List D → M D} : fnl2 ms env (some (n, φ)) st = bR (ms env st) (iso φ) := (rfl)
def fnlR (tab : FTab) (ms : EM (List D)) (env : Mir.Env) (o : Option (Option D)) (st : Store) : R D := match o with
  | some (some (.fn m)) => fnl2 ms env (tab m) st
  | _ => .bad
theorem r_fnlR {tab : FTab} {ms : EM (List D)} {m : Nat} : fnlR tab ms env (some (some (.fn m))) st = fnl2 ms env (tab m) st := (rfl)
theorem r_fnl {tab : FTab} {i : Nat} {ms : EM (List D)} : eFnL tab i ms env st = fnlR tab ms env env[i]? st := by
  unfold eFnL fnlR fnl2
  rfl
def kBl (d : D) : M Bool := fun st => match d with
  | .bl b => .ok b st
  | _ => .bad
theorem r_kBl {b : Bool} : kBl (.bl b) st = .ok b st := (rfl)
theorem r_mBl {m : M D} : mBl m st = bR (m st) kBl := by
  show mbind m _ st = _
  rw [mbind_bR]
  refine bR_congr fun d s => ?_
  unfold kBl
  cases d <;> rfl
def truthR (o : Option Bool) (st : Store) : R Bool := match o with
  | some b => .ok b st
  | none => .bad
theorem r_truthR {b : Bool} : truthR (some b) st = .ok b st := (rfl)
def kTruth (d : D) : M Bool := fun st => truthR (truth d st) st
theorem r_kTruth {d : D} : kTruth d st = truthR (truth d st) st := (rfl)
theorem r_mTruth {m : M D} : mTruth m st = bR (m st) kTruth := (rfl)
def kIf {α : Type} (m n : Mir.Env → M α) (env : Mir.Env) (b : Bool) : M α := fun st => if b then m env st else n env st
theorem r_kIfT {α : Type} {m n : Mir.Env → M α} : kIf m n env true st = m env st := (rfl)
theorem r_kIfF {α : Type} {m n : Mir.Env → M α} : kIf m n env false st = n env st := (rfl)
theorem r_kIfD {α : Type} {m n : Mir.Env → M α} {p : Prop} [Decidable p] : kIf m n env (decide p) st = if p then m env st else n env st := by
  unfold kIf
  by_cases h : p
  · rw [decide_eq_true h, if_pos rfl, if_pos h]
  · rw [decide_eq_false h, if_neg (by decide), if_neg h]
theorem r_if {c : EM Bool} {a b : EM D} : eIf c a b env st = bR (c env st) (kIf a b env) := by
  show mbind (c env) _ st = _
  rw [mbind_bR]
  refine bR_congr fun k s => ?_
  cases k <;> rfl
theorem r_sif {c : EM Bool} {a b : SM} : sIf c a b env st = bR (c env st) (kIf a b env) := by
  show mbind (c env) _ st = _
  rw [mbind_bR]
  refine bR_congr fun k s => ?_
  cases k <;> rfl
def cRet {α : Type} (a : α) : Mir.Env → M α := fun _ st => .ok a st
theorem r_cRet {α : Type} {a : α} : cRet a env st = .ok a st := (rfl)
theorem r_and {a b : EM D} : eAnd a b env st = bR (mBl (a env) st) (kIf b (cRet (.bl false)) env) := by
  show mbind (mBl (a env)) _ st = _
  rw [mbind_bR]
  refine bR_congr fun k s => ?_
  cases k <;> rfl
theorem r_or {a b : EM D} : eOr a b env st = bR (mBl (a env) st) (kIf (cRet (.bl true)) b env) := by
  show mbind (mBl (a env)) _ st = _
  rw [mbind_bR]
  refine bR_congr fun k s => ?_
  cases k <;> rfl
def kNot (b : Bool) : M D := fun st => .ok (.bl (!b)) st
theorem r_kNot {b : Bool} : kNot b st = .ok (.bl (!b)) st := (rfl)
theorem r_not {m : EM D} : eNot m env st = bR (mBl (m env) st) kNot := (rfl)
def kNotB (b : Bool) : M Bool := fun st => .ok (!b) st
theorem r_kNotB {b : Bool} : kNotB b st = .ok (!b) st := (rfl)
theorem r_bnot {m : EM Bool} : bNot m env st = bR (m env st) kNotB := (rfl)
theorem r_band {a b : EM Bool} : bAnd a b env st = bR (a env st) (kIf b (cRet false) env) := by
  show mbind (a env) _ st = _
  rw [mbind_bR]
  refine bR_congr fun k s => ?_
  cases k <;> rfl
theorem r_bor {a b : EM Bool} : bOr a b env st = bR (a env st) (kIf (cRet true) b env) := by
  show mbind (a env) _ st = _
  rw [mbind_bR]
  refine bR_congr fun k s => ?_
  cases k <;> rfl
theorem r_true : cTrue env st = .ok true st := (rfl)
def kCh3 (g' : D → D → O) (y : D) (c : EM D) (env : Mir.Env) (k : Bool) : M D := fun st => if k then bR (c env st) (kB2 g' y) else .ok (.bl false) st
def kCh2 (g g' : D → D → O) (x : D) (c : EM D) (env : Mir.Env) (y : D) : M D := fun st => bR (bR (liftR (g x y st)) kBl) (kCh3 g' y c env)
def kCh1 (g g' : D → D → O) (b c : EM D) (env : Mir.Env) (x : D) : M D := fun st => bR (b env st) (kCh2 g g' x c env)
theorem r_kCh3T {g' : D → D → O} {y : D} {c : EM D} : kCh3 g' y c env true st = bR (c env st) (kB2 g' y) := (rfl)
theorem r_kCh3F {g' : D → D → O} {y : D} {c : EM D} : kCh3 g' y c env false st = .ok (.bl false) st := (rfl)
theorem r_kCh3D {g' : D → D → O} {y : D} {c : EM D} {p : Prop} [Decidable p] : kCh3 g' y c env (decide p) st = if p then bR (c env st) (kB2 g' y) else .ok (.bl false) st := by
  by_cases h : p
  · rw [decide_eq_true h, if_pos h]; rfl
  · rw [decide_eq_false h, if_neg h]; rfl
theorem r_kCh2 {g g' : D → D → O} {x y : D} {c : EM D} : kCh2 g g' x c env y st = bR (bR (liftR (g x y st)) kBl) (kCh3 g' y c env) := (rfl)
theorem r_kCh1 {g g' : D → D → O} {x : D} {b c : EM D} : kCh1 g g' b c env x st = bR (b env st) (kCh2 g g' x c env) := (rfl)
theorem r_chain {g g' : D → D → O} {a b c : EM D} : eChain g g' a b c env st = bR (a env st) (kCh1 g g' b c env) := by
  show mbind (a env) _ st = _
  rw [mbind_bR]
  refine bR_congr fun x s => ?_
  show mbind (b env) _ s = _
  rw [mbind_bR]
  unfold kCh1
  refine bR_congr fun y s => ?_
  show mbind (mBl (lift (g x y))) _ s = _
  rw [mbind_bR, r_mBl, lift_R]
  unfold kCh2
  refine bR_congr fun k s => ?_
  cases k with
  | false => rfl
  | true =>
    show mbind (c env) _ s = bR (c env s) (kB2 g' y)
    rw [mbind_bR]
    exact bR_congr fun z s => lift_Rs _ s
def kOpt (d : D) : M (Option Int) := fun st => match d with
  | .int i => .ok (some i) st
  | _ => .bad
theorem r_kOpt {i : Int} : kOpt (.int i) st = .ok (some i) st := (rfl)
theorem r_pNone : pNone env st = .ok none st := (rfl)
theorem r_pSome {m : EM D} : pSome m env st = bR (m env st) kOpt := by
  show mbind (m env) _ st = _
  rw [mbind_bR]
  refine bR_congr fun d s => ?_
  cases d <;> rfl
def kSl3 (d : D) (l : Option Int) (h : Option Int) : M D := fun st => liftR (gSl d l h st)
def kSl2 (d : D) (hi : EP) (env : Mir.Env) (l : Option Int) : M D := fun st => bR (hi env st) (kSl3 d l)
def kSl1 (lo hi : EP) (env : Mir.Env) (d : D) : M D := fun st => bR (lo env st) (kSl2 d hi env)
theorem r_kSl3 {d : D} {l h : Option Int} : kSl3 d l h st = liftR (gSl d l h st) := (rfl)
theorem r_kSl2 {d : D} {hi : EP} {l : Option Int} : kSl2 d hi env l st = bR (hi env st) (kSl3 d l) := (rfl)
theorem r_kSl1 {d : D} {lo hi : EP} : kSl1 lo hi env d st = bR (lo env st) (kSl2 d hi env) := (rfl)
theorem r_sl {m : EM D} {lo hi : EP} : eSl m lo hi env st = bR (m env st) (kSl1 lo hi env) := by
  show mbind (m env) _ st = _
  rw [mbind_bR]
  refine bR_congr fun d s => ?_
  show mbind (lo env) _ s = _
  rw [mbind_bR]
  unfold kSl1
  refine bR_congr fun l s => ?_
  show mbind (hi env) _ s = _
  rw [mbind_bR]
  unfold kSl2
  exact bR_congr fun h s => lift_Rs _ s
def kM2 (g : D → D → O) (n : Nat) (ds : List D) : M D := fun st => match ds with
  | [y] => liftR (g (.loc n) y st)
  | _ => .bad
theorem r_kM2 {g : D → D → O} {n : Nat} {y : D} : kM2 g n [y] st = liftR (g (.loc n) y st) := (rfl)
def kM1 (g : D → D → O) (ms : EM (List D)) (env : Mir.Env) (x : D) : M D := fun st => match x with
  | .loc n => bR (ms env st) (kM2 g n)
  | _ => .bad
theorem r_kM1 {g : D → D → O} {ms : EM (List D)} {n : Nat} : kM1 g ms env (.loc n) st = bR (ms env st) (kM2 g n) := (rfl)
theorem r_m1 {g : D → D → O} {mo : EM D} {ms : EM (List D)} : eM1 g mo ms env st = bR (mo env st) (kM1 g ms env) := by
  show mbind (mo env) _ st = _
  rw [mbind_bR]
  refine bR_congr fun x s => ?_
  unfold kM1
  cases x with
  | loc n =>
    show mbind (ms env) _ s = _
    rw [mbind_bR]
    dsimp only
    refine bR_congr fun ds s => ?_
    rcases ds with _ | ⟨a, _ | ⟨b, ds⟩⟩ <;> first | rfl | exact congrFun (lift_R _) s
  | _ => rfl
-- what is walked
def ofR (o : Option Nx) (st : Store) : R Nx := match o with
  | some nx => .ok nx st
  | none => .bad
theorem r_ofR {nx : Nx} : ofR (some nx) st = .ok nx st := (rfl)
def kOf (d : D) : M Nx := fun st => ofR (nxOf d) st
theorem r_kOfL {n : Nat} : kOf (.loc n) st = .ok (nxLoc n) st := (rfl)
theorem r_kOfT {ds : List D} : kOf (.tup ds) st = .ok (fun i _ => some ds[i]?) st := (rfl)
theorem r_of {m : EM D} : iOf m env st = bR (m env st) kOf := by
  show mbind (m env) _ st = _
  rw [mbind_bR]
  refine bR_congr fun d s => ?_
  unfold kOf ofR
  cases nxOf d <;> rfl
def kRange (ds : List D) : M Nx := fun st => match ds with
  | [.int j] => if rBound j then .ok (nxRange 0 j.toNat) st else .bad
  | [.int i, .int j] => if rBound i && rBound j then .ok (nxRange i (j - i).toNat) st else .bad
  | _ => .bad
theorem r_kRange1 {j : Int} : kRange [.int j] st = if rBound j then .ok (nxRange 0 j.toNat) st else .bad := (rfl)
theorem r_kRange2 {i j : Int} : kRange [.int i, .int j] st = if rBound i && rBound j then .ok (nxRange i (j - i).toNat) st else .bad := (rfl)
theorem r_range {ms : EM (List D)} : iRange ms env st = bR (ms env st) kRange := by
  show mbind (ms env) _ st = _
  rw [mbind_bR]
  refine bR_congr fun ds s => ?_
  rcases ds with _ | ⟨a, _ | ⟨b, _ | ⟨c, ds⟩⟩⟩ <;> (try cases a) <;> (try cases b) <;> first | rfl | skip
  all_goals
    simp only [kRange]
    split <;> rfl
def kZip (ds : List D) : M Nx := fun st => match ds with
  | [.loc n, .loc m] => .ok (nxZip (nxLoc n) (nxLoc m)) st
  | [.tup xs, .tup ys] => .ok (nxZip (fun i _ => some xs[i]?) (fun i _ => some ys[i]?)) st
  | _ => .bad
theorem r_kZipL {n m : Nat} : kZip [.loc n, .loc m] st = .ok (nxZip (nxLoc n) (nxLoc m)) st := (rfl)
theorem r_kZipT {xs ys : List D} : kZip [.tup xs, .tup ys] st = .ok (nxZip (fun i _ => some xs[i]?) (fun i _ => some ys[i]?)) st := (rfl)
theorem r_zip {ms : EM (List D)} : iZipM ms env st = bR (ms env st) kZip := by
  show mbind (ms env) _ st = _
  rw [mbind_bR]
  refine bR_congr fun ds s => ?_
  rcases ds with _ | ⟨a, _ | ⟨b, _ | ⟨c, ds⟩⟩⟩ <;> (try cases a) <;> (try cases b) <;> rfl
def kLc (t : Tg) (c : EM Bool) (e : EM D) (env : Mir.Env) (nx : Nx) : M D := fun st => lcN nx t c e env FUEL 0 [] st
theorem r_kLc {t : Tg} {c : EM Bool} {e : EM D} {nx : Nx} : kLc t c e env nx st = lcN nx t c e env FUEL 0 [] st := (rfl)
theorem r_lc {it : EM Nx} {t : Tg} {c : EM Bool} {e : EM D} {vs : List Nat} : eLc it t c e vs env st = bR (it env st) (kLc t c e (wipeE env vs)) := (rfl)
def totR {α : Type} (r : R α) : R α := match r with
  | .ok a s => .ok a s
  | _ => .bad
theorem r_totR {α : Type} {a : α} {s : Store} : totR (.ok a s) = .ok a s := (rfl)
theorem r_mtot {α : Type} {m : M α} : mtot m st = totR (m st) := by
  unfold mtot totR
  cases m st <;> rfl
def setR {α : Type} (o : Option Mir.Env) (k : Mir.Env → R α) : R α := match o with
  | some e => k e
  | none => .bad
theorem r_setR {α : Type} {k : Mir.Env → R α} {e : Mir.Env} : setR (some e) k = k e := (rfl)
def kLc2 (t : Tg) (c : EM Bool) (e : EM D) (env : Mir.Env) (ds acc : List D) (y : D) : M D := fun st => if acc.length < 16777216 then lcL t c e env ds (acc ++ [y]) st else .bad
def kLc1 (t : Tg) (c : EM Bool) (e : EM D) (env env1 : Mir.Env) (ds acc : List D) (b : Bool) : M D := fun st => if b then bR (totR (e env1 st)) (kLc2 t c e env ds acc) else lcL t c e env ds acc st
theorem r_kLc2 {t : Tg} {c : EM Bool} {e : EM D} {ds acc : List D} {y : D} : kLc2 t c e env ds acc y st = if acc.length < 16777216 then lcL t c e env ds (acc ++ [y]) st else .bad := (rfl)
theorem r_kLc1T {t : Tg} {c : EM Bool} {e : EM D} {env1 : Mir.Env} {ds acc : List D} : kLc1 t c e env env1 ds acc true st = bR (totR (e env1 st)) (kLc2 t c e env ds acc) := (rfl)
theorem r_kLc1F {t : Tg} {c : EM Bool} {e : EM D} {env1 : Mir.Env} {ds acc : List D} : kLc1 t c e env env1 ds acc false st = lcL t c e env ds acc st := (rfl)
theorem r_lcL0 {t : Tg} {c : EM Bool} {e : EM D} {acc : List D} : lcL t c e env [] acc st = .ok (.loc st.length) (st ++ [acc]) := (rfl)
def kLc0 (t : Tg) (c : EM Bool) (e : EM D) (env : Mir.Env) (ds acc : List D) (st : Store) (env1 : Mir.Env) : R D := bR (totR (c env1 st)) (kLc1 t c e env env1 ds acc)
theorem r_kLc0 {t : Tg} {c : EM Bool} {e : EM D} {env1 : Mir.Env} {ds acc : List D} : kLc0 t c e env ds acc st env1 = bR (totR (c env1 st)) (kLc1 t c e env env1 ds acc) := (rfl)
theorem r_lcL {t : Tg} {c : EM Bool} {e : EM D} {d : D} {ds acc : List D} : lcL t c e env (d :: ds) acc st = setR (Tg.set t d env) (kLc0 t c e env ds acc st) := by
  conv => lhs; unfold lcL
  unfold setR kLc0
  cases Tg.set t d env with
  | none => rfl
  | some env1 =>
    dsimp only
    rw [mbind_bR, r_mtot]
    refine bR_congr fun b s => ?_
    cases b with
    | false => rfl
    | true =>
      show mbind (mtot (e env1)) _ s = bR (totR (e env1 s)) (kLc2 t c e env ds acc)
      rw [mbind_bR, r_mtot]
      refine bR_congr fun y s => ?_
      unfold kLc2
      split <;> rfl
-- statements
def kSeq (n : SM) (f : Fl) : M Fl := fun st => match f with
  | .next e => n e st
  | f => .ok f st
theorem r_kSeqN {n : SM} {e : Mir.Env} : kSeq n (.next e) st = n e st := (rfl)
theorem r_kSeqR {n : SM} {d : D} : kSeq n (.ret d) st = .ok (.ret d) st := (rfl)
theorem r_kSeqB {n : SM} {e : Mir.Env} : kSeq n (.brk e) st = .ok (.brk e) st := (rfl)
theorem r_kSeqC {n : SM} {e : Mir.Env} : kSeq n (.cont e) st = .ok (.cont e) st := (rfl)
theorem r_seq {m n : SM} : sSeq m n env st = bR (m env st) (kSeq n) := by
  show mbind (m env) _ st = _
  rw [mbind_bR]
  refine bR_congr fun f s => ?_
  cases f <;> rfl
theorem r_snil : sNil env st = .ok (.next env) st := (rfl)
theorem r_brk : sBrk env st = .ok (.brk env) st := (rfl)
theorem r_cont : sCont env st = .ok (.cont env) st := (rfl)
def asgR (o : Option Mir.Env) (st : Store) : R Fl := match o with
  | some e => .ok (.next e) st
  | none => .bad
theorem r_asgR {e : Mir.Env} : asgR (some e) st = .ok (.next e) st := (rfl)
def kAsg (t : Tg) (env : Mir.Env) (d : D) : M Fl := fun st => asgR (Tg.set t d env) st
theorem r_kAsg {t : Tg} {d : D} : kAsg t env d st = asgR (Tg.set t d env) st := (rfl)
theorem r_asg {m : EM D} {t : Tg} : sAsg m t env st = bR (m env st) (kAsg t env) := by
  show mbind (m env) _ st = _
  rw [mbind_bR]
  refine bR_congr fun d s => ?_
  unfold kAsg asgR
  cases Tg.set t d env <;> rfl
def kPar (i j : Nat) (env : Mir.Env) (ds : List D) : M Fl := fun st => match ds with
  | [a, b] => .ok (.next ((env.set i (some a)).set j (some b))) st
  | _ => .bad
theorem r_kPar {i j : Nat} {a b : D} : kPar i j env [a, b] st = .ok (.next ((env.set i (some a)).set j (some b))) st := (rfl)
theorem r_par {i j : Nat} {ms : EM (List D)} : sPar i j ms env st = bR (ms env st) (kPar i j env) := by
  show mbind (ms env) _ st = _
  rw [mbind_bR]
  refine bR_congr fun ds s => ?_
  rcases ds with _ | ⟨a, _ | ⟨b, _ | ⟨c, ds⟩⟩⟩ <;> rfl
def kPar3 (i j l : Nat) (env : Mir.Env) (ds : List D) : M Fl := fun st => match ds with
  | [a, b, c] => .ok (.next (((env.set i (some a)).set j (some b)).set l (some c))) st
  | _ => .bad
theorem r_kPar3 {i j l : Nat} {a b c : D} : kPar3 i j l env [a, b, c] st = .ok (.next (((env.set i (some a)).set j (some b)).set l (some c))) st := (rfl)
theorem r_par3 {i j l : Nat} {ms : EM (List D)} : sPar3 i j l ms env st = bR (ms env st) (kPar3 i j l env) := by
  show mbind (ms env) _ st = _
  rw [mbind_bR]
  refine bR_congr fun ds s => ?_
  rcases ds with _ | ⟨a, _ | ⟨b, _ | ⟨c, _ | ⟨d, ds⟩⟩⟩⟩ <;> rfl
def kRet (d : D) : M Fl := fun st => .ok (.ret d) st
theorem r_kRet {d : D} : kRet d st = .ok (.ret d) st := (rfl)
theorem r_ret {m : EM D} : sRet m env st = bR (m env st) kRet := (rfl)
def kExpr (env : Mir.Env) (d : D) : M Fl := fun st => .ok (.next env) st
theorem r_kExpr {d : D} : kExpr env d st = .ok (.next env) st := (rfl)
theorem r_expr {m : EM D} : sExpr m env st = bR (m env st) (kExpr env) := (rfl)
theorem r_raise {c : Nat} : sRaise c env st = .exc c st := (rfl)
def kSet3 (env : Mir.Env) (d o i : D) : M Fl := fun st => match o, i with
  | .loc n, .int k => (match st[n]? with
    | some ds => (match ixN ds.length k with
      | some j => .ok (.next env) (st.set n (ds.set j d))
      | none => .bad)
    | none => .bad)
  | _, _ => .bad
def kSet2 (mi : EM D) (env : Mir.Env) (d o : D) : M Fl := fun st => bR (mi env st) (kSet3 env d o)
def kSet1 (mo mi : EM D) (env : Mir.Env) (d : D) : M Fl := fun st => bR (mo env st) (kSet2 mi env d)
theorem r_kSet3 {d : D} {n : Nat} {k : Int} : kSet3 env d (.loc n) (.int k) st = (match st[n]? with
    | some ds => (match ixN ds.length k with
      | some j => .ok (.next env) (st.set n (ds.set j d))
      | none => .bad)
    | none => .bad) := rfl
theorem r_kSet2 {mi : EM D} {d o : D} : kSet2 mi env d o st = bR (mi env st) (kSet3 env d o) := (rfl)
theorem r_kSet1 {mo mi : EM D} {d : D} : kSet1 mo mi env d st = bR (mo env st) (kSet2 mi env d) := (rfl)
theorem r_set {me mo mi : EM D} : sSet me mo mi env st = bR (me env st) (kSet1 mo mi env) := by
  show mbind (me env) _ st = _
  rw [mbind_bR]
  refine bR_congr fun d s => ?_
  show mbind (mo env) _ s = _
  rw [mbind_bR]
  unfold kSet1
  refine bR_congr fun o s => ?_
  show mbind (mi env) _ s = _
  rw [mbind_bR]
  unfold kSet2
  congr 1
def kFor (t : Tg) (b : SM) (env : Mir.Env) (nx : Nx) : M Fl := fun st => forN nx t b FUEL 0 env st
theorem r_kFor {t : Tg} {b : SM} {nx : Nx} : kFor t b env nx st = forN nx t b FUEL 0 env st := (rfl)
theorem r_for {it : EM Nx} {t : Tg} {b : SM} : sFor it t b env st = bR (it env st) (kFor t b env) := (rfl)
def kForL (t : Tg) (b : SM) (ds : List D) (f : Fl) : M Fl := fun st => match f with
  | .next e => forL t b ds e st
  | .cont e => forL t b ds e st
  | .brk e => .ok (.next e) st
  | .ret d => .ok (.ret d) st
theorem r_kForLN {t : Tg} {b : SM} {ds : List D} {e : Mir.Env} : kForL t b ds (.next e) st = forL t b ds e st := (rfl)
theorem r_kForLC {t : Tg} {b : SM} {ds : List D} {e : Mir.Env} : kForL t b ds (.cont e) st = forL t b ds e st := (rfl)
theorem r_kForLB {t : Tg} {b : SM} {ds : List D} {e : Mir.Env} : kForL t b ds (.brk e) st = .ok (.next e) st := (rfl)
theorem r_kForLR {t : Tg} {b : SM} {ds : List D} {d : D} : kForL t b ds (.ret d) st = .ok (.ret d) st := (rfl)
def kForL0 (t : Tg) (b : SM) (ds : List D) (st : Store) (env1 : Mir.Env) : R Fl := bR (b env1 st) (kForL t b ds)
theorem r_kForL0 {t : Tg} {b : SM} {ds : List D} {env1 : Mir.Env} : kForL0 t b ds st env1 = bR (b env1 st) (kForL t b ds) := (rfl)
theorem r_forL0 {t : Tg} {b : SM} : forL t b [] env st = .ok (.next env) st := (rfl)
theorem r_forL {t : Tg} {b : SM} {d : D} {ds : List D} : forL t b (d :: ds) env st = setR (Tg.set t d env) (kForL0 t b ds st) := by
  conv => lhs; unfold forL
  unfold setR kForL0
  cases Tg.set t d env with
  | none => rfl
  | some env1 =>
    dsimp only
    rw [mbind_bR]
    refine bR_congr fun f s => ?_
    cases f <;> rfl
def kEnd (f : Fl) : M D := fun st => match f with
  | .next _ => .ok .non st
  | .ret d => .ok d st
  | _ => .bad
theorem r_kEndN {e : Mir.Env} : kEnd (.next e) st = .ok .non st := (rfl)
theorem r_kEndR {d : D} : kEnd (.ret d) st = .ok d st := (rfl)
theorem r_fnM {n N : Nat} {b : SM} {ds : List D} : fnM n N b ds st = if ds.length = n then bR (b (ds.map some ++ List.replicate (N - n) none) st) kEnd else .bad := by
  unfold fnM
  by_cases h : ds.length = n
  · rw [if_pos h, if_pos h, mbind_bR]
    refine bR_congr fun f s => ?_
    cases f <;> rfl
  · rw [if_neg h, if_neg h]; rfl
def nxR (o : Option (List D)) (i : Nat) : Option (Option D) := match o with
  | some ds => some ds[i]?
  | none => none
theorem r_nxR {ds : List D} {i : Nat} : nxR (some ds) i = some ds[i]? := (rfl)
theorem r_nxLoc {n i : Nat} : nxLoc n i st = nxR st[n]? i := (rfl)
def zipR (p q : Option (Option D)) : Option (Option D) := match p, q with
  | some (some x), some (some y) => some (some (.tup [x, y]))
  | some none, some _ => some none
  | some _, some none => some none
  | _, _ => none
theorem r_zipR {x y : D} : zipR (some (some x)) (some (some y)) = some (some (.tup [x, y])) := (rfl)
theorem r_zipR0 {q : Option D} : zipR (some none) (some q) = some none := by cases q <;> rfl
theorem r_zipR1 {p : Option D} : zipR (some p) (some none) = some none := by cases p <;> rfl
theorem r_nxZip {a b : Nx} {i : Nat} : nxZip a b i st = zipR (a i st) (b i st) := (rfl)
theorem r_orR {α : Type} {a : α} {s : Store} {r : R α} : orR (.ok a s) r = .ok a s := (rfl)
theorem r_orRx {α : Type} {c : Nat} {s : Store} {r : R α} : orR (.exc c s : R α) r = .exc c s := (rfl)
def kK2 (nx : Nx) (t : Tg) (c : EM Bool) (e : EM D) (env : Mir.Env) (n i : Nat) (acc : List D) (y : D) : M D := fun st => if acc.length < 16777216 then lcK nx t c e env n (i + 1) (acc ++ [y]) st else .bad
def kK1 (nx : Nx) (t : Tg) (c : EM Bool) (e : EM D) (env : Mir.Env) (n i : Nat) (acc : List D) (env1 : Mir.Env) (b : Bool) : M D := fun st => if b then bR (totR (e env1 st)) (kK2 nx t c e env n i acc) else lcK nx t c e env n (i + 1) acc st
def kK0 (nx : Nx) (t : Tg) (c : EM Bool) (e : EM D) (env : Mir.Env) (n i : Nat) (acc : List D) (st : Store) (env1 : Mir.Env) : R D := bR (totR (c env1 st)) (kK1 nx t c e env n i acc env1)
def lcKa (nx : Nx) (t : Tg) (c : EM Bool) (e : EM D) (env : Mir.Env) (n i : Nat) (acc : List D) (st : Store) (o : Option (Option D)) : R D := match o with
  | none => .bad
  | some none => .ok (.loc st.length) (st ++ [acc])
  | some (some d) => setR (Tg.set t d env) (kK0 nx t c e env n i acc st)
section
variable {nx : Nx} {t : Tg} {c : EM Bool} {e : EM D} {n i : Nat} {acc : List D} {env1 : Mir.Env}
theorem r_kK2 {y : D} : kK2 nx t c e env n i acc y st = if acc.length < 16777216 then lcK nx t c e env n (i + 1) (acc ++ [y]) st else .bad := (rfl)
theorem r_kK1T : kK1 nx t c e env n i acc env1 true st = bR (totR (e env1 st)) (kK2 nx t c e env n i acc) := (rfl)
theorem r_kK1F : kK1 nx t c e env n i acc env1 false st = lcK nx t c e env n (i + 1) acc st := (rfl)
theorem r_kK0 : kK0 nx t c e env n i acc st env1 = bR (totR (c env1 st)) (kK1 nx t c e env n i acc env1) := (rfl)
theorem r_lcKa0 : lcKa nx t c e env n i acc st (some none) = .ok (.loc st.length) (st ++ [acc]) := (rfl)
theorem r_lcKa1 {d : D} : lcKa nx t c e env n i acc st (some (some d)) = setR (Tg.set t d env) (kK0 nx t c e env n i acc st) := (rfl)
theorem r_lcK : lcK nx t c e env (n + 1) i acc st = lcKa nx t c e env n i acc st (nx i st) := by
  conv => lhs; unfold lcK
  unfold lcKa
  cases nx i st with
  | none => rfl
  | some o =>
    cases o with
    | none => rfl
    | some d =>
      unfold setR kK0
      dsimp only
      cases Tg.set t d env with
      | none => rfl
      | some env1 =>
        dsimp only
        rw [mbind_bR, r_mtot]
        refine bR_congr fun b s => ?_
        cases b with
        | false => rfl
        | true =>
          show mbind (mtot (e env1)) _ s = bR (totR (e env1 s)) (kK2 nx t c e env n i acc)
          rw [mbind_bR, r_mtot]
          refine bR_congr fun y s => ?_
          unfold kK2
          split <;> rfl
end
/-! ### a for, turn by turn -/
def forF (nx : Nx) (t : Tg) (b : SM) : Nat → Nat → SM
  | 0, _, _ => mbad
  | n + 1, i, env => fun st => match nx i st with
    | none => .bad
    | some none => .ok (.next env) st
    | some (some d) => match Tg.set t d env with
      | none => .bad
      | some env1 => mbind (b env1) (fun f => match f with
        | .next env' => forF nx t b n (i + 1) env'
        | .cont env' => forF nx t b n (i + 1) env'
        | .brk env' => mpure (.next env')
        | .ret d => mpure (.ret d)) st
theorem forF_eq {nx : Nx} {t : Tg} {b : SM} : ∀ (n i : Nat) (env : Mir.Env), forF nx t b n i env = forN nx t b n i env
  | 0, _, _ => rfl
  | n + 1, i, env => by
    funext st
    rw [forN_succ]
    unfold forF
    have h : ∀ i env, forF nx t b n i env = forN nx t b n i env := fun i env => forF_eq n i env
    simp only [h]
    all_goals rfl
theorem forN_more {nx : Nx} {t : Tg} {b : SM} : ∀ (k n i : Nat) (env : Mir.Env) (st : Store), k ≤ n → forN nx t b k i env st ≠ .bad → forN nx t b n i env st = forN nx t b k i env st
  | 0, n, i, env, st, _, h => absurd rfl h
  | k + 1, 0, i, env, st, hk, _ => absurd hk (by omega)
  | k + 1, n + 1, i, env, st, hk, h => by
    rw [forN_succ] at h
    rw [forN_succ, forN_succ]
    cases e1 : nx i st with
    | none => rfl
    | some o =>
      rw [e1] at h
      cases o with
      | none => rfl
      | some d =>
        dsimp only at h ⊢
        cases e2 : Tg.set t d env with
        | none => rfl
        | some env1 =>
          rw [e2] at h
          dsimp only at h ⊢
          unfold mbind at h ⊢
          cases e3 : b env1 st with
          | bad => rfl
          | exc x s => rfl
          | ok f st1 =>
            rw [e3] at h
            dsimp only at h ⊢
            cases f with
            | next e' => exact forN_more k n (i + 1) e' st1 (by omega) h
            | cont e' => exact forN_more k n (i + 1) e' st1 (by omega) h
            | brk e' => rfl
            | ret d => rfl
def forBad (nx : Nx) (t : Tg) (b : SM) (env : Mir.Env) (st : Store) : R Fl := forN nx t b FUEL 0 env st
theorem forU (k : Nat) (hk : k ≤ FUEL) {nx : Nx} {t : Tg} {b : SM} : forN nx t b FUEL 0 env st = orR (forF nx t b k 0 env st) (forBad nx t b env st) := by
  rw [forF_eq]
  cases h : forN nx t b k 0 env st with
  | bad => rfl
  | _ => rw [forN_more k FUEL 0 env st hk (by rw [h]; intro z; cases z), h]; rfl
def kF1 (nx : Nx) (t : Tg) (b : SM) (n i : Nat) (f : Fl) : M Fl := fun st => match f with
  | .next e => forF nx t b n (i + 1) e st
  | .cont e => forF nx t b n (i + 1) e st
  | .brk e => .ok (.next e) st
  | .ret d => .ok (.ret d) st
def kF0 (nx : Nx) (t : Tg) (b : SM) (n i : Nat) (st : Store) (env1 : Mir.Env) : R Fl := bR (b env1 st) (kF1 nx t b n i)
def forFa (nx : Nx) (t : Tg) (b : SM) (n i : Nat) (env : Mir.Env) (st : Store) (o : Option (Option D)) : R Fl := match o with
  | none => .bad
  | some none => .ok (.next env) st
  | some (some d) => setR (Tg.set t d env) (kF0 nx t b n i st)
section
variable {nx : Nx} {t : Tg} {b : SM} {n i : Nat} {env1 : Mir.Env}
theorem r_kF1N {e : Mir.Env} : kF1 nx t b n i (.next e) st = forF nx t b n (i + 1) e st := (rfl)
theorem r_kF1C {e : Mir.Env} : kF1 nx t b n i (.cont e) st = forF nx t b n (i + 1) e st := (rfl)
theorem r_kF1B {e : Mir.Env} : kF1 nx t b n i (.brk e) st = .ok (.next e) st := (rfl)
theorem r_kF1R {d : D} : kF1 nx t b n i (.ret d) st = .ok (.ret d) st := (rfl)
theorem r_kF0 : kF0 nx t b n i st env1 = bR (b env1 st) (kF1 nx t b n i) := (rfl)
theorem r_forFa0 : forFa nx t b n i env st (some none) = .ok (.next env) st := (rfl)
theorem r_forFa1 {d : D} : forFa nx t b n i env st (some (some d)) = setR (Tg.set t d env) (kF0 nx t b n i st) := (rfl)
theorem r_forF : forF nx t b (n + 1) i env st = forFa nx t b n i env st (nx i st) := by
  conv => lhs; unfold forF
  unfold forFa
  cases nx i st with
  | none => rfl
  | some o =>
    cases o with
    | none => rfl
    | some d =>
      unfold setR kF0
      dsimp only
      cases Tg.set t d env with
      | none => rfl
      | some env1 =>
        dsimp only
        rw [mbind_bR]
        refine bR_congr fun f s => ?_
        cases f <;> rfl
end
end Mir
/-! MirV: loops by an invariant and a number that falls; errors told; more words of the run. -/
namespace Mir
open PySem _root_.L2 PyProof.Rows
theorem r_while {c : EM Bool} {b : SM} {env : Mir.Env} {st : Store} : sWhile c b env st = whileN c b FUEL env st := (rfl)
/-- a while whose turns are counted by a number that falls -/
theorem whileN_inv {c : EM Bool} {b : SM} {I : Nat → Mir.Env → Store → Prop} {Q : Mir.Env → Store → Prop}
    (h : ∀ n env st, I n env st → (c env st = .ok false st ∧ Q env st) ∨ ∃ m, m < n ∧ c env st = .ok true st ∧ OkN (b env st) (I m)) :
    ∀ (N n : Nat) (env : Mir.Env) (st : Store), n < N → I n env st → ∃ e s, whileN c b N env st = .ok (.next e) s ∧ Q e s
  | 0, _, _, _, hn, _ => absurd hn (Nat.not_lt_zero _)
  | N + 1, n, env, st, hn, i => by
    rw [whileN_succ]
    rcases h n env st i with ⟨e1, q⟩ | ⟨m, hm, e1, k⟩
    · refine ⟨env, st, ?_, q⟩
      unfold mbind
      rw [e1]
      rfl
    · obtain ⟨e2, s2, e, i2⟩ := k.ex
      obtain ⟨e3, s3, e', q⟩ := whileN_inv h N m e2 s2 (by omega) i2
      refine ⟨e3, s3, ?_, q⟩
      unfold mbind
      rw [e1]
      dsimp only
      rw [if_pos rfl, e]
      exact e'
theorem while_inv {c : EM Bool} {b : SM} {I : Nat → Mir.Env → Store → Prop} {Q : Mir.Env → Store → Prop} {n : Nat} {env : Mir.Env} {st : Store}
    (h : ∀ n env st, I n env st → (c env st = .ok false st ∧ Q env st) ∨ ∃ m, m < n ∧ c env st = .ok true st ∧ OkN (b env st) (I m)) (hn : n < 2 ^ 64) (i : I n env st) :
    ∃ e s, sWhile c b env st = .ok (.next e) s ∧ Q e s := whileN_inv h FUEL n env st (Nat.lt_trans hn (by decide)) i
/-- a for that is left by a break or by a return, before its things end -/
theorem forL_exit {t : Tg} {b : SM} {I : Nat → Mir.Env → Store → Prop} {QB : Mir.Env → Store → Prop} {QR : D → Store → Prop} : ∀ (ds : List D) (n : Nat) (env : Mir.Env) (st : Store),
    (∀ d ∈ ds, ∀ n env st, I n env st → ∃ env1, Tg.set t d env = some env1 ∧ ((∃ e s, b env1 st = .ok (.brk e) s ∧ QB e s) ∨ (∃ v s, b env1 st = .ok (.ret v) s ∧ QR v s) ∨ ∃ m, m < n ∧ OkN (b env1 st) (I m))) → I n env st → n < ds.length →
    (∃ e s, forL t b ds env st = .ok (.next e) s ∧ QB e s) ∨ (∃ v s, forL t b ds env st = .ok (.ret v) s ∧ QR v s)
  | [], n, env, st, _, _, hl => absurd hl (Nat.not_lt_zero _)
  | d :: ds, n, env, st, h, i, hl => by
    obtain ⟨env1, e1, k⟩ := h d List.mem_cons_self n env st i
    rw [r_forL, e1, r_setR, r_kForL0]
    rcases k with ⟨e, s, k, q⟩ | ⟨v, s, k, q⟩ | ⟨m, hm, k⟩
    · left; refine ⟨e, s, ?_, q⟩; rw [k]; rfl
    · right; refine ⟨v, s, ?_, q⟩; rw [k]; rfl
    · obtain ⟨e2, s2, e, i2⟩ := k.ex
      rw [e, bR_ok, r_kForLN]
      simp only [List.length_cons] at hl
      exact forL_exit ds m e2 s2 (fun x hx => h x (List.mem_cons_of_mem _ hx)) i2 (by omega)
/-! ### errors told -/
def errW (o : Option Str) (st : Store) : R D := match o with
  | some z => .ok (.str z) st
  | none => .bad
theorem r_errW {z : Str} {st : Store} : errW (some z) st = .ok (.str z) st := (rfl)
def errR (w : Nat → Option Str) (nn : Str) (r : R D) : R D := match r with
  | .ok _ s => .ok (.str nn) s
  | .exc c s => errW (w c) s
  | .bad => .bad
theorem r_errO {w : Nat → Option Str} {nn : Str} {d : D} {s : Store} : errR w nn (.ok d s) = .ok (.str nn) s := (rfl)
theorem r_errE {w : Nat → Option Str} {nn : Str} {c : Nat} {s : Store} : errR w nn (.exc c s) = errW (w c) s := (rfl)
theorem r_err {w : Nat → Option Str} {nn : Str} {m : EM D} {env : Mir.Env} {st : Store} : eErr w nn m env st = errR w nn (m env st) := by
  unfold eErr errR errW
  cases m env st with
  | ok d s => rfl
  | exc c s => first | rfl | (cases w c <;> rfl) | (dsimp only; cases w c <;> rfl)
  | bad => rfl
/-! ### tables -/
theorem tabU1 {a : Addr} {x : Str} : ∀ p ∈ [(a, x)], ∀ q ∈ [(a, x)], p.1 = q.1 → p.2 = q.2 := fun p hp q hq _ => by
  rw [List.mem_singleton] at hp hq
  rw [hp, hq]
theorem tabUN : ∀ {l : List (Addr × Str)}, (l.map Prod.fst).Nodup → ∀ p ∈ l, ∀ q ∈ l, p.1 = q.1 → p.2 = q.2
  | [], _, p, hp, _, _, _ => absurd hp (by simp)
  | x :: l, h, p, hp, q, hq, e => by
    rw [List.map_cons, List.nodup_cons] at h
    rcases List.mem_cons.mp hp with h1 | h1
    · rcases List.mem_cons.mp hq with h2 | h2
      · rw [h1, h2]
      · rw [h1] at e
        exact absurd (List.mem_map.mpr ⟨q, h2, e.symm⟩) h.1
    · rcases List.mem_cons.mp hq with h2 | h2
      · rw [h2] at e
        exact absurd (List.mem_map.mpr ⟨p, h1, e⟩) h.1
      · exact tabUN h.2 p h1 q h2 e
end Mir
/-! MirT: an own error with a limit: its __init__ says super().__init__(limit) and self.limit = limit. -/
namespace LimX
open PySem PySem.W PySem.Calls PyProof.Rows PySem.Spec
/-- the body of such an __init__ -/
abbrev limBody (p0 p1 p2 p3 p4 p5 p6 p7 p8 p9 : Pos) : List Stmt := [.Expr (.Call (.Attribute (.Call (.Name "super" p0) [] [] p1) "__init__" p2) [.Name "limit" p3] [] p4) p5, .Assign [.Attribute (.Name "self" p6) "limit" p7] (.Name "limit" p8) p9]
structure LimF (K : Frag) (file0 : Str) (C fI cc cda : Addr) (qual : Str) (params : Arguments) (scope : Scope) (body : List Stmt) : Prop where
  fn : ∃ (oc : Value) (od : Option Addr) (dV kV doc pm ct : Value) (an : Option Addr) (osl : Array (Option Value)), K.lookup fI = some ⟨oc, od, .func (fnX "__init__" qual params body scope [("__class__", cc)] dV kV doc pm an (.ref cda) ct), osl⟩ ∧
    ∀ a u, bindArgs (fnX "__init__" qual params body scope [("__class__", cc)] dV kV doc pm an (.ref cda) ct) ⟨[.ref a, u], []⟩ = (pure [(("self" : Str), Value.ref a), (("limit" : Str), u)] : Sem (List (Str × Value)))
  first : ∃ ar : Arg, (params.posonlyargs ++ params.args).head? = some ar ∧ ar.arg = "self"
  code : codeIn K (.ref cda) qual = true
  file : ∃ ccl cdd vs ccs file tf, K.lookup cda = some ⟨ccl, cdd, .fields vs, ccs⟩ ∧ vs[2]? = some (.str file tf) ∧ (file0 == file) = true
  cell : ∃ cl cld csl, K.lookup cc = some ⟨cl, cld, .cell (some (.ref C)), csl⟩
  cls : ∃ cdD, clsIn K C = some cdD
  sub : mroIn K C (.ref C) = some true
  sup : ks_superIn K C C "__init__" = some (some (.builtin "ValueError.__init__"))
  isB : subIn K (.ref C) (.type "ValueError") = some true
  any : nsIn K cStatics "thirdparty.any" = some none
  nol : findIn K (.ref C) "limit" = some none
  sa : findIn K (.ref C) "__setattr__" = some (some (.builtin "object.__setattr__"))
  s1 : scope.names.lookup ("super" : Str) = some .globalImplicit
  s2 : scope.names.lookup ("__class__" : Str) = some .free
  s3 : scope.names.lookup ("self" : Str) = some .local
  s4 : scope.names.lookup ("limit" : Str) = some .local
  s5 : ∀ x ∈ scope.names, x.2 ≠ .cell
  s6 : scope.isCoroutine = false
  s7 : scope.isGenerator = false
  s8 : scope.kind = .function
section
variable {prog : Program} {w : World} {A : Around} {R : Result → Shared → Prop} {h : Heap} {g : Array GenState} {d : Drawn} {t : Nat} {os : OsState} {K : Frag} {C fI cc cda : Addr} {qual : Str} {params : Arguments} {scope : Scope} {a t0 : Addr} {u : Value}
theorem lim_run {p0 p1 p2 p3 p4 p5 p6 p7 p8 p9 : Pos} {mg mb : Str → Option Value} (FF : LimF K prog.main.file C fI cc cda qual params scope (limBody p0 p1 p2 p3 p4 p5 p6 p7 p8 p9)) (T : ∃ nm q N bs bm sn sub ab col dd k0 k1 k2 k3 k5, K.lookup C = some (excClassObj nm q C N bs bm true sn sub ab col dd k0 k1 k2 k3 k5 "ValueError.__new__") ∧ PySem.HandSPX.refsVE bm = true)
    (X : K.In h) (hg : h.Ns mainGlobals mg) (hb : h.Ns builtinsNs mb) (hsm : mg "super" = none) (hsb : mb "super" = some (.type "super")) (hl : h.NoLimit) (htop : (prog.main.scope.names.lookup ("super" : Str)).isSome = false)
    (hx : h.get? a = some (PySem.HandSPX.excO C t0)) (ha : K.lookup a = none) (hroom : A.depth < recursionLimit)
    (hev : ∃ pl : Sem Bool, ∀ env : Env, eval (.Call (.Attribute (.Call (.Name "super" p0) [] [] p1) "__init__" p2) [.Name "limit" p3] [] p4) env = (do
      let ov ← attributeBase (.Call (.Name "super" p0) [] [] p1) "__init__" env (eval (.Call (.Name "super" p0) [] [] p1) env)
      standAt p2.atName
      let (f, first) ← holding [ov] (getMethod ov "__init__" pl)
      callWith p4 f first (backTo p4 (starEach [.Name "limit" p3] env)) []))
    (hq : ∀ h2 tk dx t1, (∀ b o, b ≠ a → h.get? b = some o → h2.get? b = some o) → h.objs.size ≤ dx → dx ≠ a → h2.get? a = some { cls := .ref C, dict := some dx, data := .fields #[.ref t1, .none, .none, .none, .bool false, .none] } → h2.Ns1 dx (fun y => if y = "limit" then some u else none) → R (.ok (.ret .none)) ⟨h2, g, d, tk, os⟩) :
    codeAny (model prog w) A (.call (.ref fI) ⟨[.ref a, u], []⟩) R ⟨h, g, d, t, os⟩ := by
  obtain ⟨oc, od, dV, kV, doc, pm, ct, an, osl, lk, hbind⟩ := FF.fn
  obtain ⟨ar, har, hself⟩ := FF.first
  obtain ⟨ccl, cdd, vs, ccs, file, tf, lkc, hvs, hfile⟩ := FF.file
  obtain ⟨cl, cld, csl, lkcell⟩ := FF.cell
  obtain ⟨cdD, hD⟩ := FF.cls
  obtain ⟨nm, q, N, bs, bm, sn, sub, ab, col, dd, k0, k1, k2, k3, k5, hC, hbm⟩ := T
  have hcl : clsIn K C = some { name := nm, bases := bs, mro := .ref C :: bm, ns := N, qualname := q, hasDict := true, slotNames := sn, subclasses := sub, abstract := ab, collection := col, hasDel := false } := by unfold clsIn; rw [hC] <;> rfl
  refine ks_codeAny_call_defAt (fd := fnX "__init__" qual params (limBody p0 p1 p2 p3 p4 p5 p6 p7 p8 p9) scope [("__class__", cc)] dV kV doc pm an (.ref cda) ct) (body := limBody p0 p1 p2 p3 p4 p5 p6 p7 p8 p9) (binds := [("self", .ref a), ("limit", u)]) hroom (X _ _ lk) rfl hl (codeRec_of X FF.code) rfl (.of_eq (hbind a u)) FF.s5 (fun y hy => ?_) (fun h₀ hns hk₁ => ?_) FF.s6 FF.s7 FF.s8
  · simp only [List.mem_cons, List.mem_nil_iff, or_false] at hy
    rcases hy with rfl | rfl
    · exact FF.s3
    · exact FF.s4
  show _root_.PySem.wpAt (model prog w) (A.deeper (ksEnv qual scope h.objs.size fI (.ref cda) cc)) (.func (limBody p0 p1 p2 p3 p4 p5 p6 p7 p8 p9) (ksEnv qual scope h.objs.size fI (.ref cda) cc)) (execs (limBody p0 p1 p2 p3 p4 p5 p6 p7 p8 p9) (ksEnv qual scope h.objs.size fI (.ref cda) cc)) _ _ _
  generalize hL : h.objs.size = L at *
  have X0 : K.In h₀ := X.keeps hk₁
  have hx0 := hk₁ _ _ hx
  have hCo := X0 _ _ hC
  have aC : a ≠ C := fun z => by
    rw [z, hCo] at hx0
    have e := congrArg (Option.map Obj.data) hx0
    simp [excClassObj, PySem.HandSPX.excO] at e
  obtain ⟨pl, hev⟩ := hev
  have hint : interactive (ksEnv qual scope L fI (.ref cda) cc) = false := by
    unfold interactive
    simp [FF.s8]
  -- the state's parts that stay
  have nsL : ∀ {h' : Heap}, (∀ b o, h₀.get? b = some o → h'.get? b = some o) → h'.Ns L (fun x => [(("self" : Str), Value.ref a), (("limit" : Str), u)].reverse.lookup x) := fun {h'} k => by
    obtain ⟨oL, es, ep, hL', r⟩ := hns
    exact ⟨oL, es, ep, k _ _ hL', r⟩
  refine ks_wpAt_execs_cons (ks_wpAt_Expr_any (ks_wpAt_MethodCall ?_ (hev _)) hint)
  refine ks_wpAt_super_base (env := ksEnv qual scope L fI (.ref cda) cc) FF.s1 FF.s2 (by decide) rfl (X0 _ _ lk) rfl har rfl (X0 _ _ lkc) rfl hvs hfile htop ?_
  refine ks_loadName_global FF.s8 FF.s1 (loadGlobal_builtin (env := ksEnv qual scope L fI (.ref cda) cc) (hg.keeps hk₁) hsm (hb.keeps hk₁) hsb ⟨rfl, ?_⟩)
  refine wpAny_loadName_free FF.s8 FF.s2 rfl ⟨_, X0 _ _ lkcell, rfl⟩ ?_
  rw [hself]
  refine wpAny_loadName_local FF.s8 FF.s3 hns rfl ?_
  refine ks_wpAny_isType_cls hCo rfl ⟨rfl, ?_⟩
  refine ks_wpAny_call_super hCo rfl hx0 rfl (fun c e => by cases e) (looks_mroIn X0 FF.sub) (fun h1 e1 kk1 => ?_)
  have X1 : K.In h1 := X0.keeps kk1
  have hx1 := kk1 _ _ hx0
  have I1 : InstAt h1 a (PySem.HandSPX.excO C t0) C none := ⟨hx1, rfl, rfl, trivial⟩
  have hsup : alongIn K "__init__" (((Value.ref C :: bm).dropWhile (· != .ref C)).drop 1) = some (some (.builtin "ValueError.__init__")) := by
    have z := FF.sup
    unfold ks_superIn at z
    rw [hcl] at z
    exact z
  refine kxs_getMethod kxs_ValueError e1 (looks_opaque X1 FF.any) (l₀ := .ref C :: bm) (fun A Q E s k q => wpAny_bind ((looks_clsIn X1 hcl) A _ E s k (wpAny_pure q))) rfl X1 hsup (I1.type.andThen (looks_subIn X1 FF.isB)) aC (by decide) ?_
  -- the wrapper stands at m
  generalize hm0 : h1.objs.size = m
  generalize hh2 : h1.push (kxs_mw "ValueError.__init__" a) = h2
  have kk2 : ∀ b o, h1.get? b = some o → h2.get? b = some o := fun b o e => by rw [← hh2]; exact Heap.get?_push_of_some _ e
  have mw2 : h2.get? m = some (kxs_mw "ValueError.__init__" a) := by rw [← hh2, ← hm0]; exact Heap.get?_push_size _ rfl
  have hx2 := kk2 _ _ hx1
  have ns2 := nsL (h' := h2) fun b o e => kk2 b o (kk1 b o e)
  show wpAny _ _ (callWith p4 (.ref m) [] ((false, eval (.Name "limit" p3) (ksEnv qual scope L fI (.ref cda) cc)) :: []) []) _ _ _
  refine kxs_callWith (i := "ValueError.__init__") (x := a) rfl (evalArgs_plain ?_)
  refine Calls.spliced_cons (PySem.ESX.ldL ns2 rfl ?_ FF.s8 FF.s4) 
  refine Calls.spliced_nil ⟨mw2, ?_⟩
  -- ValueError.__init__ bound, called
  have hC2 := kk2 _ _ (kk1 _ _ hCo)
  refine wpAny_call (codeAny_of_tree ?_)
  show wpAny _ (Around.in1 _) (callAny (.ref m) ⟨[u], []⟩) _ _ _
  simp only [callAny]
  refine wpAny_bind (wpAny_load mw2 ?_)
  simp only [kxs_mw, show (Value.type "method-wrapper" == Value.type "method" || Value.type "method-wrapper" == Value.type "builtin_function_or_method" || Value.type "method-wrapper" == Value.type "method-wrapper") = true by decide, if_true]
  refine KFB.if_so (by decide) ?_
  refine wpAny_bind (check_bound_init F.excBase_ValueError.toExcCallFacts hC2 hx2 rfl ?_)
  refine wpAny_bind (wpAny_pure (wpAny_pure ?_))
  refine ⟨plainId_quiet F.excBase_ValueError.init.plain _, codeAny_builtin F.excBase_ValueError.initEntry ?_⟩
  refine exc_init_tree (cls := .ref C) (t0 := t0) (dv := none) (c2 := .none) (c3 := .none) (b4 := .bool false) hx2 (by show 1 ≤ sizeLine; decide) fun h3 k3 hx3 ht3 => ?_
  have aL : a < L := by rw [← hL]; exact Heap.lt_size hx
  have k23 : ∀ b o, b ≠ a → h.get? b = some o → h3.get? b = some o := fun b o hb e => k3 b o hb (kk2 _ _ (kk1 _ _ (hk₁ _ _ e)))
  have ns3 : h3.Ns L (fun x => [(("self" : Str), Value.ref a), (("limit" : Str), u)].reverse.lookup x) := by
    obtain ⟨oL, es, ep, hL', r⟩ := ns2
    exact ⟨oL, es, ep, k3 _ _ (Nat.ne_of_gt aL) hL', r⟩
  have X3 : K.In h3 := fun b o e => k3 b o (fun z => by
    rw [z] at e
    rw [ha] at e
    cases e) ((X1.keeps kk2) b o e)
  refine ks_wpAt_execs_cons (ks_wpAt_Assign_Attr (_root_.PySem.wpAt_of_wpAny (PySem.ESX.ldL ns3 rfl (PySem.ESX.ldL ns3 rfl ?_ FF.s8 FF.s3) FF.s8 FF.s4)))
  refine PySem.W.set_plain X3 (ox := { cls := .ref C, dict := none, data := .fields #[.ref _, .none, .none, .none, .bool false, .none] }) (od := none) ⟨hx3, rfl, rfl, trivial⟩ FF.sa ?_
  refine PySem.HandSPX.exc_osa X3 hx3 hcl (show PySem.HandSPX.refsVE (.ref C :: bm) = true from hbm) rfl FF.nol (fun h4 tk' dx k4 dn dne hx4 hn4 => ?_)
  refine _root_.PySem.wpAt_of_wpAny (wpAny_pure ?_)
  refine hq h4 tk' dx _ (fun b o hb e => k4 b o hb (k23 b o hb e)) ?_ dne hx4 hn4
  have l3 : L < h3.objs.size := by
    obtain ⟨oL, es, ep, hL', r⟩ := ns3
    exact Heap.lt_size hL'
  exact Nat.le_trans (Nat.le_of_lt l3) dn
end
end LimX
namespace L2
open PySem PySem.Spec PyProof.Rows
/-- C(e), C's __init__ keeping the argument as the limit -/
def tMkL (C : Addr) (ta : TA) : St → Hp → XK → Prop := fun σ H Q => ta σ H fun vs H1 => ∃ y, vs = [y] ∧ ∀ d, H1 d = none → Q (.ref C) (some d) (upd H1 d (.xd [("limit", y)]))
theorem pmk_lim {X : Cx} {x : Str} {C fI cc cda : Addr} {qual : Str} {params : Arguments} {scope : Scope} {e : Expr} {ta : TA} {p pos : Pos} {p0 p1 p2 p3 p4 p5 p6 p7 p8 p9 : Pos} {k : Nat} (T : OexC X.K C) (iC : PySem.W.findIn X.K (.ref C) "__init__" = some (some (.ref fI))) (tI : PySem.W.typeIn X.K (.ref fI) = some (.type "function"))
    (FF : LimX.LimF X.K X.prog.main.file C fI cc cda qual params scope (LimX.limBody p0 p1 p2 p3 p4 p5 p6 p7 p8 p9)) (hsm : X.mg "super" = none) (htop : (X.prog.main.scope.names.lookup ("super" : Str)).isSome = false)
    (hev : ∃ pl : Sem Bool, ∀ env : Env, eval (.Call (.Attribute (.Call (.Name "super" p0) [] [] p1) "__init__" p2) [.Name "limit" p3] [] p4) env = (do
      let ov ← attributeBase (.Call (.Name "super" p0) [] [] p1) "__init__" env (eval (.Call (.Name "super" p0) [] [] p1) env)
      standAt p2.atName
      let (f, first) ← holding [ov] (getMethod ov "__init__" pl)
      callWith p4 f first (backTo p4 (starEach [.Name "limit" p3] env)) []))
    (hr : Room (k + 2) X.A) (hg : Gl X x) (hm : X.mg x = some (.ref C)) (ha : PA X [e] ta)
    (hdb : (x == ("__debug__" : Str)) = false := by decide) (he : starEach [e] X.env = (false, eval e X.env) :: starEach [] X.env := by rfl) (hpl : (backTo pos (starEach [] X.env)).any (·.1) = false := by rfl) :
    L2N.PMk X (.Call (.Name x p) [e] [] pos) (tMkL C ta) := by
  intro pins s σ H Q I h
  obtain ⟨nm, q, N, bs, bm, sn, sub, ab, col, dd, k0, k1, k2, k3, k5, hC, hbm⟩ := T.cls
  refine wpAny_Call_Name_kw (ld_glob I hg hm ?_ hdb)
  refine PySem.W.callWith_K (h₀ := X.base) I.ok.mod.kin T.kC (thn (ha.run pos pins s σ H _ I h) fun us s1 ⟨vs, H1, I1, r1, y, hy, q1⟩ => ⟨I1.kIn, ?_⟩) he hpl
  show wpAny _ _ (call (.ref C) us) _ _ _
  subst hy
  obtain ⟨u, rfl, ru⟩ := r1.one
  obtain ⟨hp, g, dr, tk, os⟩ := s1
  have hsz : hp.objs.size ≤ hp.objs.size + 1 := Nat.le_succ _
  have kk : ∀ b o, hp.get? b = some o → ((hp.push (PySem.W.kdv_tup [u])).push (PySem.HandSPX.excO C hp.objs.size)).get? b = some o := fun b o e => Heap.get?_push_of_some _ (Heap.get?_push_of_some _ e)
  have hget : ((hp.push (PySem.W.kdv_tup [u])).push (PySem.HandSPX.excO C hp.objs.size)).get? (hp.objs.size + 1) = some (PySem.HandSPX.excO C hp.objs.size) := by heap_get
  have hKa : X.K.lookup (hp.objs.size + 1) = none := by
    cases z : X.K.lookup (hp.objs.size + 1) with
    | none => rfl
    | some o => exact absurd (Heap.lt_size (I1.kIn _ _ z)) (by show ¬(hp.objs.size + 1 < hp.objs.size); omega)
  obtain ⟨mb, hb1, hb2⟩ := I1.mod.blt
  have kb : ∀ b o, X.base.get? b = some o → ((hp.push (PySem.W.kdv_tup [u])).push (PySem.HandSPX.excO C hp.objs.size)).get? b = some o := fun b o e => kk b o (I1.bk b o e)
  refine wpAny_call (PySem.HandSPX.call_own F.excBase_ValueError (fun Y => PySem.HandSPX.refsVE_contains Y bm hbm) (I1.kIn _ _ hC) (PySem.W.looks_findIn I1.kIn iC) (fun self => PySem.W.bind_fn I1.kIn self tI) (by show 1 ≤ sizeLine; decide)
    (LimX.lim_run (mg := X.mg) (mb := mb) (t0 := hp.objs.size) FF ⟨nm, q, N, bs, bm, sn, sub, ab, col, dd, k0, k1, k2, k3, k5, hC, hbm⟩ (I1.mod.kin.keeps kb) (I1.mod.glob.keeps kb) (hb1.keeps kb) hsm ((hb2 "super" (by decide)).trans (by decide +kernel)) (I1.mod.nolimit.keeps kb) htop hget hKa ?_ hev fun h2 tk2 dx t1 k4 dn dne hx hn => ?_))
  · exact (hr.make C [u] []).depth
  · have I2 : Inv X pins σ (upd H1 (hp.objs.size + 1) (exo (hp.objs.size + 1) C none)) ⟨(hp.push (PySem.W.kdv_tup [u])).push (PySem.HandSPX.excO C hp.objs.size), g, dr, tk, os⟩ :=
      I1.laid (t' := tk) (a := hp.objs.size + 1) (o := exo (hp.objs.size + 1) C none) (h' := (hp.push (PySem.W.kdv_tup [u])).push (PySem.HandSPX.excO C hp.objs.size)) kk hsz (exo_ok hget)
    generalize ha0 : hp.objs.size + 1 = a at *
    have ea : (upd H1 a (exo a C none)) a = some (exo a C none) := upd_same
    generalize hH : upd H1 a (exo a C none) = H at *
    generalize hp2e : (hp.push (PySem.W.kdv_tup [u])).push (PySem.HandSPX.excO C hp.objs.size) = hp2 at *
    have hnd : H dx = none := I2.hok.fresh dn
    have nd : ∀ {b : Addr} {o : Obj}, hp2.get? b = some o → b ≠ dx := fun {b o} q => Nat.ne_of_lt (Nat.lt_of_lt_of_le (Heap.lt_size q) dn)
    have na : ∀ {b : Addr}, H b = none → b ≠ a := fun {b} n z => by
      rw [z, ea] at n
      cases n
    have Un1 : Un (frs X.stack) [] H (upd (upd H dx (exd dx [("limit", y)])) a (exo a C (some dx))) hp2 h2 := {
      keep := fun b o q n _ _ => k4 b o (na n) q
      slot := fun b o q n _ _ => ⟨o.slots, k4 b o (na n) q⟩
      free := fun b o q n _ => by rw [upd_ne (na n), upd_ne (nd q)]; exact n
      there := fun b o q _ => by
        by_cases hb : b = a
        · exact ⟨_, by rw [hb]; exact hx⟩
        · exact ⟨o, k4 b o hb q⟩
      tups := fun b xs q => by rw [upd_ne (at_ne ea q exo_tup), upd_ne (ne_of_none q hnd)]; exact q
      frzs := fun b o v q => by rw [upd_ne (at_ne ea q exo_frz), upd_ne (ne_of_none q hnd)]; exact q
      tbls := fun b ps q => ⟨#[], by rw [upd_ne (at_ne ea q exo_tbl), upd_ne (ne_of_none q hnd), q]; simp⟩ }
    have hok2 : HOk X.prog X.w (upd (upd H dx (exd dx [("limit", y)])) a (exo a C (some dx))) h2 := fun b o q => by
      by_cases hb : b = a
      · subst hb
        rw [upd_same] at q
        cases q
        exact exo_ok hx
      · rw [upd_ne hb] at q
        by_cases hd : b = dx
        · subst hd
          rw [upd_same] at q
          cases q
          exact exd_ok hn (relO_put (fs := []) ru fun g => True.intro)
        · rw [upd_ne hd] at q
          exact (I2.hok b o q).stay (fun c v hc z => k4 c v (by
              rcases hc with hc | hc
              · rw [hc]
                exact hb
              · exact at_ne ea hc exo_own) z)
            (fun c hc => by rw [upd_ne (at_ne ea hc exo_own), upd_ne (ne_of_none hc hnd)]; exact hc) (fun c xs hc => by rw [upd_ne (at_ne ea hc exo_tup), upd_ne (ne_of_none hc hnd)]; exact hc)
    have hd1 : H1 dx = none := by
      rw [← hH, upd_ne dne] at hnd
      exact hnd
    rw [← hH] at Un1
    obtain ⟨t0, G, J, kG, ge, hoe, na2⟩ := mk_end0 (d2 := dr) (t2 := tk2) (C := C) (a := a) (d := dx) (fs := [("limit", y)]) I1 hsz kk Un1 (by rw [hH]; exact hok2) rfl I1.bare (by rw [upd_same]) (by rw [upd_ne dne, upd_same]) hd1
    refine ⟨rfl, a, _, _, ⟨G, g, dr, tk2, os⟩, _, .ref C, some dx, rfl, J, kG, ge, hoe, ⟨rfl, rfl, ?_⟩, rfl, rfl, na2, rfl, I1.bare, raises_own T.exC T.tyC, ?_⟩
    · intro vs hvs
      cases hvs
      rfl
    · have q2 := q1 dx hd1
      have hn1 : H1 a = none := I1.hok.fresh hsz
      have e2 : upd (del (upd (upd H dx (exd dx [("limit", y)])) a (exo a C (some dx))) a) dx (.xd [("limit", y)]) = upd H1 dx (.xd [("limit", y)]) := by
        funext b
        by_cases hb : b = dx
        · rw [hb, upd_same, upd_same]
        · rw [upd_ne hb, upd_ne hb]
          by_cases hba : b = a
          · rw [hba, del_same, hn1]
          · rw [del_ne hba, upd_ne hba, upd_ne hb, ← hH, upd_ne hba]
      rw [hH, e2]
      exact q2
end L2
/-! MirU: more words of the mirror: an error with a limit, its field, or of values, str, bit_length, reversed slices, enumerate, written tuples. -/
namespace Mir
open PySem _root_.L2 PyProof.Rows
variable {H H' H1 H2 : Hp} {L L' L1 L2 : List Addr} {st st' : Store} {X : Cx} {G : Gx} {E : XK}
/-! ### raise C(limit) -/
def sRaiseL (ms : EM (List D)) : SM := fun env => mbind (ms env) fun ds => match ds with
  | [.int i] => if 0 ≤ i then mraise (1000 + i.toNat) else mbad
  | _ => mbad
theorem ds_raiseL {e : Expr} {C : Addr} {ms : EM (List D)} {pos : Pos} (hC : C = G.ct G.lc) (hc : X.calm = true) (tk : L2N.Takes X (fun cls d _ H => E cls d H)) (he : L2N.PMk X e (tMkL C (tA G E ms))) : PS X (.Raise (some e) none pos) (tS G E (sRaiseL ms)) :=
  PS.imp (L2N.ps_raise hc tk he) fun Dn σ H ⟨L, st, env, rs, re, p⟩ => by
    refine ⟨L, st, env, rs, re, (Pst.bind (m := ms env) p).mono fun ds st1 L1 H1 po1 rs1 q vs rvs => ?_⟩
    split at q
    · rename_i i
      by_cases hi : 0 ≤ i
      · rw [if_pos hi] at q
        cases rvs with
        | cons h1 h2 =>
          cases h2; cases h1
          refine ⟨_, rfl, fun d hd => ?_⟩
          have kp : ∀ b o, H1 b = some o → upd H1 d (.xd [("limit", V.int i)]) b = some o := fun b o e => by rw [upd_ne (ne_of_none e hd)]; exact e
          have po : Po L1 L1 H1 (upd H1 d (.xd [("limit", V.int i)])) := Po.ext L1 fun b o e _ => kp b o e
          have x : ExE G E (1000 + i.toNat) (upd H1 d (.xd [("limit", V.int i)])) := q _ L1 po (rs1.ext (fun b o e _ => kp b o e) (rs1.tabs.ext kp))
          unfold ExE at x
          rw [if_neg (by omega)] at x
          have e : (((1000 + i.toNat : Nat) : Int) - 1000) = i := by omega
          rw [e] at x
          rw [hC]
          exact x d upd_same
      · rw [if_neg hi] at q; exact q.elim
    · exact q.elim
/-! ### e.limit in an except suite -/
def eLim (c0 i : Nat) : EM D := fun env st => match env[i]? with
  | some (some (.exn c)) => if c = c0 ∧ 1000 ≤ c0 then .ok (.int ((c0 : Int) - 1000)) st else .bad
  | _ => .bad
theorem d_lim {Y : Cx} {a0 C : Addr} {cls : Value} {d : Option Addr} {c0 i : Nat} {e1 : Expr} {pos : Pos} (hea : G.ea = a0) (hed : G.ed = d.getD 0) (hcl : 1000 ≤ c0 → cls = .ref C ∧ ∃ dd, d = some dd) (h1 : PE Y e1 (tVar i))
    (h : ∀ t, PE Y e1 t → PE Y (.Attribute e1 "limit" pos) (tXf a0 cls d C "limit" t)) :
    PE Y (.Attribute e1 "limit" pos) (tM G E (eLim c0 i)) := by
  refine PE.imp (h _ h1) fun σ H Q ⟨L, st, env, rs, re, q⟩ => ?_
  unfold eLim at q
  split at q
  · rename_i c e
    by_cases hh : c = c0 ∧ 1000 ≤ c0
    · rw [if_pos hh] at q
      obtain ⟨ec, hh⟩ := hh
      subst ec
      obtain ⟨v, hv, rv⟩ := re.at_ _ _ e
      cases rv with
      | exn _ hx =>
        obtain ⟨e2, dd, e3⟩ := hcl hh
        have := hx hh
        rw [hed, e3] at this
        exact ⟨_, hv, by rw [hea], e2, dd, [("limit", .int ((c : Int) - 1000))], .int ((c : Int) - 1000), e3, this, rfl, q H L (Po.refl _ _) rs _ (.int _)⟩
    · rw [if_neg hh] at q; exact q.elim
  · exact q.elim
/-! ### a or b, a and b, of values -/
theorem truth_spec {v : V} {d : D} {b : Bool} (rs : Rs G H L st) (rv : Rp G H L v d) (e : truth d st = some b) : TruV G.K v H b := by
  cases rv with
  | non => cases e; rfl
  | bl b => cases e; rfl
  | int i => cases e; rfl
  | str s =>
    unfold truth at e
    dsimp only at e
    by_cases hl : s.length ≤ 16777216
    · rw [if_pos hl] at e; cases e
      exact ⟨by rw [sizeLine_eq]; exact hl, rfl⟩
    · rw [if_neg hl] at e; cases e
  | tup h1 h2 =>
    cases e
    refine .inr (.inl ⟨_, h1, ?_⟩)
    rw [isEmpty_of_len h2.length]
  | @loc a n h1 =>
    unfold truth at e
    dsimp only at e
    split at e
    · rename_i ds eds
      cases e
      obtain ⟨xs, hx, rx⟩ := rs.get h1 eds
      refine .inl ⟨xs, SqL.of hx, ?_⟩
      rw [isEmpty_of_len rx.length]
    · cases e
  | ty k => cases e
  | fn k => cases e
  | scr => cases e
  | exn c => cases e
  | raw w => cases e
def eOrT (a b : EM D) : EM D := fun env => mbind (a env) fun d st => match truth d st with
  | some true => .ok d st
  | some false => b env st
  | none => .bad
theorem d_orT {a b : Expr} {rest : List Expr} {m n : EM D} {pos} (hK : X.K = G.K) (h : PE X a (tM G E m)) (h' : PE X (.BoolOp .Or (b :: rest) pos) (tM G E n)) (hp : ∀ ta tb, PE X a ta → PE X (.BoolOp .Or (b :: rest) pos) tb → PE X (.BoolOp .Or (a :: b :: rest) pos) (tOrT X.K ta tb)) : PE X (.BoolOp .Or (a :: b :: rest) pos) (tM G E (eOrT m n)) := by
  refine PE.imp (hp _ _ h h') fun σ H Q ⟨L, st, env, rs, re, p⟩ => ?_
  refine ⟨L, st, env, rs, re, (Pst.bind (m := m env) p).mono fun d st1 L1 H1 po1 rs1 q v rv => ?_⟩
  cases e : truth d st1 with
  | none => rw [e] at q; exact q.elim
  | some k =>
    rw [e] at q
    refine ⟨k, by rw [hK]; exact truth_spec rs1 rv e, ?_⟩
    cases k with
    | true => exact q H1 L1 (Po.refl _ _) rs1 v rv
    | false => exact ⟨L1, st1, env, rs1, re.po po1 rs.lst, q⟩
/-! ### str, bit_length, xs[::-1] -/
def gStr (x : D) : O := fun st => match x with
  | .int i => if i.natAbs.log2 < 1920 then some (.str (toString i), st) else none
  | .str s => some (.str s, st)
  | _ => none
theorem c_str (h2 : CallR X (.type "str") (fun xs H Q => ∃ a, xs = [.str a] ∧ Q (.str a) H)) : CallM X G (.type "str") (f1 gStr) := callM1 (CallR.or call_str_int h2) fun x dx H L st Q rs rx => fits_same rs fun d st' e => by
  unfold gStr at e
  split at e
  · rename_i i
    by_cases hl : i.natAbs.log2 < 1920
    · rw [if_pos hl] at e; cases e; cases rx
      exact ⟨rfl, _, .str _, fun q => .inl ⟨i, rfl, hl, q⟩⟩
    · rw [if_neg hl] at e; cases e
  · cases e; cases rx
    exact ⟨rfl, _, .str _, fun q => .inr ⟨_, rfl, q⟩⟩
  · cases e
def gBits (x : D) : O := fun st => match x with
  | .int i => some (.int (Builtin.Int.intBits i : Nat), st)
  | _ => none
theorem d_bits {o : Expr} {mo : EM D} {apos pos : Pos} (ho : PE X o (tM G E mo)) (h : ∀ to, PE X o to → PE X (.Call (.Attribute o "bit_length" apos) [] [] pos) (tBits to)) : PE X (.Call (.Attribute o "bit_length" apos) [] [] pos) (tM G E (eUn gBits mo)) := by
  refine PE.imp (h _ ho) fun σ H Q ⟨L, st, env, rs, re, p⟩ => ?_
  refine ⟨L, st, env, rs, re, (Pst.bind (m := mo env) p).mono fun dx st1 L1 H1 po1 rs1 q x rx => ?_⟩
  obtain ⟨d, st3, e3, q3⟩ := lift_k (α := Unit) q
  unfold gBits at e3
  split at e3
  · cases e3; cases rx
    exact ⟨_, rfl, q3 H1 L1 (Po.refl _ _) rs1 _ (.int _)⟩
  · cases e3
def gRev (x : D) : O := fun st => match x with
  | .loc n => match st[n]? with
    | some ds => some (.loc st.length, st ++ [ds.reverse])
    | none => none
  | _ => none
theorem RpAll.rev {xs : List V} {ds : List D} (h : RpAll G H L xs ds) : RpAll G H L xs.reverse ds.reverse := by
  induction xs generalizing ds with
  | nil => cases h; exact .nil
  | cons x xs ih => cases h with
    | cons h1 h2 =>
      rw [List.reverse_cons, List.reverse_cons]
      exact (ih h2).app (.cons h1 .nil)
theorem d_revL {o e : Expr} {mo : EM D} (hK : X.K = G.K) (ho : PE X o (tM G E mo)) (h : ∀ to, PE X o to → PE X e (tRevL X.K to)) : PE X e (tM G E (eUn gRev mo)) := by
  refine PE.imp (h _ ho) fun σ H Q ⟨L, st, env, rs, re, p⟩ => ?_
  refine ⟨L, st, env, rs, re, (Pst.bind (m := mo env) p).mono fun dx st1 L1 H1 po1 rs1 q x rx => ?_⟩
  obtain ⟨d, st3, e3, q3⟩ := lift_k (α := Unit) q
  unfold gRev at e3
  split at e3
  · rename_i n
    split at e3
    · rename_i ds eds
      cases e3
      obtain ⟨a, rfl, ha⟩ := loc_inv rx
      obtain ⟨xs, hx, rxs⟩ := rs1.get ha eds
      refine ⟨a, xs, rfl, SqL.of hx, fun p hp => ?_⟩
      obtain ⟨po, rs2, rp⟩ := new_lst rs1 hp rxs.rev
      exact q3 _ _ po rs2 _ rp
    · cases e3
  · cases e3
/-! ### written tuples -/
mutual
def ktB (K : W.Frag) : Nat → Value → D → Bool
  | _, .none, .non => true
  | _, .bool a, .bl b => a == b
  | _, .int i _, .int j => decide (i = j)
  | _, .str s _, .str z => s == z
  | n + 1, .ref a, .tup ds => match K.lookup a with
    | some ⟨.type c, none, .seq its _, _⟩ => c == "tuple" && decide (its.size ≤ 1000) && ktBs K n its.toList ds
    | _ => false
  | _, _, _ => false
def ktBs (K : W.Frag) : Nat → List Value → List D → Bool
  | _, [], [] => true
  | n, v :: vs, d :: ds => ktB K n v d && ktBs K n vs ds
  | _, _, _ => false
end
mutual
theorem ktB_ok {K : W.Frag} : ∀ (n : Nat) (u : Value) (d : D), ktB K n u d = true → ∃ v, RelV v u ∧ ∀ (G : Gx) (H : Hp) (L : List Addr), G.K = K → Rp G H L v d
  | n, u, d, h => by
    unfold ktB at h
    split at h
    · exact ⟨.non, rfl, fun G H L _ => .non⟩
    · rename_i a b
      have e : a = b := by simpa using h
      subst e
      exact ⟨.bl a, rfl, fun G H L _ => .bl a⟩
    · rename_i i t j
      have e : i = j := of_decide_eq_true h
      subst e
      exact ⟨.int i, ⟨t, rfl⟩, fun G H L _ => .int i⟩
    · rename_i x t z
      have e : x = z := by simpa using h
      subst e
      exact ⟨.str x, ⟨t, rfl⟩, fun G H L _ => .str x⟩
    · rename_i n a ds
      split at h
      · rename_i c its cnt sl lk
        rw [Bool.and_eq_true, Bool.and_eq_true] at h
        obtain ⟨⟨h1, h2⟩, h3⟩ := h
        obtain ⟨vs, rv, rp⟩ := ktBs_ok n its.toList ds h3
        have e : c = "tuple" := by simpa using h1
        have hz : its.size ≤ sizeLine := Nat.le_trans (of_decide_eq_true h2) (by decide)
        refine ⟨.ref a, rfl, fun G H L hK => .tup (xs := vs) (.inr ⟨_, its, cnt, by rw [hK]; exact lk, by rw [e], rfl, hz, rv⟩) (rp G H L hK)⟩
      · cases h
    · cases h
theorem ktBs_ok {K : W.Frag} : ∀ (n : Nat) (us : List Value) (ds : List D), ktBs K n us ds = true → ∃ vs, Vals vs us ∧ ∀ (G : Gx) (H : Hp) (L : List Addr), G.K = K → RpAll G H L vs ds
  | _, [], [], _ => ⟨[], .nil, fun _ _ _ _ => .nil⟩
  | n, u :: us, d :: ds, h => by
    unfold ktBs at h
    rw [Bool.and_eq_true] at h
    obtain ⟨v, r, p⟩ := ktB_ok n u d h.1
    obtain ⟨vs, rs, ps⟩ := ktBs_ok n us ds h.2
    exact ⟨v :: vs, .cons r rs, fun G H L hK => .cons (p G H L hK) (ps G H L hK)⟩
  | _, [], _ :: _, h => by simp [ktBs] at h
  | _, _ :: _, [], h => by simp [ktBs] at h
end
theorem d_globT {x : Str} {a : Value} {d : D} {pos : Pos} (hK : X.K = G.K) (hg : Gl X x) (hm : X.mg x = some a) (hk : ktB G.K 6 a d = true) (hd : (x == ("__debug__" : Str)) = false := by decide) : PE X (.Name x pos) (tM G E (eC d)) := by
  obtain ⟨v, r, p⟩ := ktB_ok 6 a d hk
  exact d_const (pe_glob hg hm r hd) fun H L => p G H L rfl
/-! ### the run of these words -/
def kRaiseL (ds : List D) : M Fl := fun st => match ds with
  | [.int i] => if 0 ≤ i then .exc (1000 + i.toNat) st else .bad
  | _ => .bad
theorem r_kRaiseL {i : Int} {st : Store} : kRaiseL [.int i] st = if 0 ≤ i then .exc (1000 + i.toNat) st else .bad := (rfl)
theorem r_raiseL {ms : EM (List D)} {env : Mir.Env} {st : Store} : sRaiseL ms env st = bR (ms env st) kRaiseL := by
  show mbind (ms env) _ st = _
  rw [mbind_bR]
  refine bR_congr fun ds s => ?_
  rcases ds with _ | ⟨a, _ | ⟨b, ds⟩⟩ <;> (try cases a) <;> first | rfl | skip
  unfold kRaiseL
  dsimp only
  split <;> rfl
def orT2 (o : Option Bool) (d : D) (b : EM D) (env : Mir.Env) (st : Store) : R D := match o with
  | some true => .ok d st
  | some false => b env st
  | none => .bad
def kOrT (b : EM D) (env : Mir.Env) (d : D) : M D := fun st => orT2 (truth d st) d b env st
theorem r_orT2T {d : D} {b : EM D} {env : Mir.Env} {st : Store} : orT2 (some true) d b env st = .ok d st := (rfl)
theorem r_orT2F {d : D} {b : EM D} {env : Mir.Env} {st : Store} : orT2 (some false) d b env st = b env st := (rfl)
theorem r_kOrT {b : EM D} {d : D} {env : Mir.Env} {st : Store} : kOrT b env d st = orT2 (truth d st) d b env st := (rfl)
theorem r_orT {a b : EM D} {env : Mir.Env} {st : Store} : eOrT a b env st = bR (a env st) (kOrT b env) := (rfl)
end Mir
namespace Mir
open PySem _root_.L2 PyProof.Rows
/-- how super().__init__(limit) is run at the places p0 to p4 -/
def LimEv (p0 p1 p2 p3 p4 : Pos) : Prop := ∃ pl : Sem Bool, ∀ env : PySem.Env, eval (.Call (.Attribute (.Call (.Name "super" p0) [] [] p1) "__init__" p2) [.Name "limit" p3] [] p4) env = (do
      let ov ← attributeBase (.Call (.Name "super" p0) [] [] p1) "__init__" env (eval (.Call (.Name "super" p0) [] [] p1) env)
      standAt p2.atName
      let (f, first) ← holding [ov] (getMethod ov "__init__" pl)
      callWith p4 f first (backTo p4 (starEach [.Name "limit" p3] env)) [])
/-- the class C's __init__, as the text has it -/
def LimOk (K : W.Frag) (file : Str) (C : Addr) : Prop := ∃ (fI cc cda : Addr) (qual : Str) (params : Arguments) (scope : Scope) (p0 p1 p2 p3 p4 p5 p6 p7 p8 p9 : Pos), W.findIn K (.ref C) "__init__" = some (some (.ref fI)) ∧ W.typeIn K (.ref fI) = some (.type "function") ∧ LimX.LimF K file C fI cc cda qual params scope (LimX.limBody p0 p1 p2 p3 p4 p5 p6 p7 p8 p9) ∧ LimEv p0 p1 p2 p3 p4
theorem pmk_limC {X : Cx} {x : Str} {C : Addr} {e : Expr} {ta : TA} {p pos : Pos} {k : Nat} (T : OexC X.K C) (F : LimOk X.K X.prog.main.file C) (hsm : X.mg "super" = none) (htop : (X.prog.main.scope.names.lookup ("super" : Str)).isSome = false)
    (hr : Room (k + 2) X.A) (hg : Gl X x) (hm : X.mg x = some (.ref C)) (ha : PA X [e] ta)
    (hdb : (x == ("__debug__" : Str)) = false := by decide) (he : starEach [e] X.env = (false, eval e X.env) :: starEach [] X.env := by rfl) (hpl : (backTo pos (starEach [] X.env)).any (·.1) = false := by rfl) :
    L2N.PMk X (.Call (.Name x p) [e] [] pos) (tMkL C ta) := by
  obtain ⟨fI, cc, cda, qual, params, scope, p0, p1, p2, p3, p4, p5, p6, p7, p8, p9, iC, tI, FF, ev⟩ := F
  exact pmk_lim T iC tI FF hsm htop ev hr hg hm ha hdb he hpl
theorem xfc_of {K : W.Frag} {C : Addr} (h : ExcC K C) : XfC K C := ⟨h.hg, h.hk, h.hs, h.hd⟩
theorem lim_cl {G : Gx} {c0 : Nat} {d : Option Addr} (hn : LimN c0 d) (h : 1000 ≤ c0) : Value.ref (G.cl c0) = .ref (G.ct G.lc) ∧ ∃ dd, d = some dd := by
  rcases hn with ⟨h1, _⟩ | ⟨_, h2⟩
  · omega
  · unfold Gx.cl
    rw [if_neg (by omega)]
    exact ⟨rfl, h2⟩
/-- f(), f of the text -/
theorem d_fn0 {X : Cx} {G : Gx} {E : XK} {k : Nat} {f : Addr} {fd : FuncData} {x : Str} {p pos : Pos} {φ : List D → M D} (F : FnOk X.prog X.w X.K X.mg X.base (L2N.CX X.prog X.w) k f fd [] (spM G 0 φ)) (tk : L2N.Takes X (fun cls d _ H => E cls d H)) (hr : Room k X.A) (hg : Gl X x) (hm : X.mg x = some (.ref f)) (hk : PySem.W.keepIn X.K (.ref f) = true) (hb : Binds X.K fd [] []) (hl : ∀ ds st, ds.length ≠ 0 → φ ds st = .bad)
    (hdb : (x == ("__debug__" : Str)) = false := by decide) : PE X (.Call (.Name x p) [] [] pos) (tM G E (eFn 0 φ aNil)) := by
  have h0 : PE X (.Call (.Name x p) [] [] pos) (tCallS (spM G 0 φ) (fun _ => E) tNil) := by
    refine ⟨fun pins s σ H Q I h => ?_⟩
    refine wpAny_Call_Name_kw (ld_glob I hg hm ?_ hdb)
    exact PySem.W.callWith_K0 I.kIn hk (run_fnS (us := []) F hr hb (L2N.passAt tk σ) I .nil h)
  refine PE.imp h0 fun σ H Q ⟨L, st, env, rs, re, p⟩ => ?_
  exact iso_sp (vs := []) hl rs .nil p
end Mir
/-! MirN: facts about numbers: bits, floors, rests, whole roots (own work). -/
namespace Mir
open PySem _root_.L2 PyProof.Rows
abbrev B (n : Nat) (k : Int) : Prop := Builtin.Int.intBits k ≤ n
theorem cDiv_ok {i j : Int} {n : Nat} (h0 : j ≠ 0) (h : B n j) (hn : n ≤ 8999) : cDiv i j = true := by
  unfold cDiv
  rw [Bool.and_eq_true]
  refine ⟨decide_eq_true h0, decide_eq_true ?_⟩
  refine (Nat.log2_lt (by omega)).mpr ?_
  exact Nat.lt_of_lt_of_le (PySem.intBits_le_iff.mp h) (Nat.pow_le_pow_right (by decide) (by omega : n ≤ 9000))
theorem div2 : ∀ z, cDiv z 2 = true := fun z => cDiv_ok (n := 2) (by decide) (by decide) (by decide)
theorem div4 : ∀ z, cDiv z 4 = true := fun z => cDiv_ok (n := 3) (by decide) (by decide) (by decide)
theorem pow2 (z : Int) : z ^ (2:Int).toNat = z * z := by show z ^ 2 = z * z; rw [Int.pow_succ, Int.pow_succ, Int.pow_zero, Int.one_mul]
def restR (r : R D) : Store := match r with
  | .ok _ g => g
  | _ => []
theorem of_run {φ : List D → M D} {ds : List D} {v : D} (h : φ ds [] = .ok v (restR (φ ds []))) (ha : noLocs ds = true) (hv : noLoc v = true) (st : Store) : iso φ ds st = .ok v st :=
  iso_pure (by rw [h]; rfl) ha hv st
theorem fmod_bd (a : Int) {b : Int} (hb : b ≠ 0) : (0 < b ∧ 0 ≤ a.fmod b ∧ a.fmod b < b) ∨ (b < 0 ∧ b < a.fmod b ∧ a.fmod b ≤ 0) := by
  by_cases h : 0 < b
  · exact .inl ⟨h, Int.fmod_nonneg_of_pos a h, Int.fmod_lt_of_pos a h⟩
  · have hb' : 0 < -b := by omega
    have e : (-a).fmod (-b) = -a.fmod b := Int.neg_fmod_neg a b
    have h1 := Int.fmod_nonneg_of_pos (-a) hb'
    have h2 := Int.fmod_lt_of_pos (-a) hb'
    exact .inr ⟨by omega, by omega, by omega⟩
theorem fdiv_abs (a b : Int) : (a.fdiv b).natAbs ≤ a.natAbs := by
  by_cases hb : b = 0
  · subst hb; simp
  · by_cases h : 0 < b
    · rw [Int.fdiv_eq_ediv_of_nonneg a (by omega)]
      exact Int.natAbs_ediv_le_natAbs a b
    · have e : (-a).fdiv (-b) = a.fdiv b := Int.neg_fdiv_neg a b
      rw [← e, Int.fdiv_eq_ediv_of_nonneg (-a) (by omega)]
      have := Int.natAbs_ediv_le_natAbs (-a) (-b)
      rwa [Int.natAbs_neg] at this
/-! ### Euclid's steps -/
theorem bits_abs {a b : Int} {n : Nat} (h : a.natAbs ≤ b.natAbs) (hb : Builtin.Int.intBits b ≤ n) : Builtin.Int.intBits a ≤ n := PySem.intBits_le_of_natAbs h hb
theorem root_ex : ∀ n : Nat, ∃ s : Nat, s * s ≤ n ∧ n < (s + 1) * (s + 1)
  | 0 => ⟨0, by omega, by omega⟩
  | n + 1 => by
    obtain ⟨s, h1, h2⟩ := root_ex n
    by_cases h : n + 1 < (s + 1) * (s + 1)
    · exact ⟨s, by omega, h⟩
    · refine ⟨s + 1, by omega, ?_⟩
      have : (s + 1 + 1) * (s + 1 + 1) = (s + 1) * (s + 1) + 2 * s + 3 := by grind
      omega
/-- the root of a number from 0 on -/
structure Rt (n s : Int) : Prop where
  h0 : 0 ≤ s
  lo : s * s ≤ n
  hi : n < (s + 1) * (s + 1)
theorem rt_ex (n : Int) (h : 0 ≤ n) : ∃ s, Rt n s := by
  obtain ⟨m, rfl⟩ := Int.eq_ofNat_of_zero_le h
  obtain ⟨s, h1, h2⟩ := root_ex m
  exact ⟨s, by omega, by exact_mod_cast h1, by exact_mod_cast h2⟩
theorem rt_uniq {n s r : Int} (h : Rt n s) (g : Rt n r) : s = r := by
  have k : ∀ {s r : Int}, Rt n s → Rt n r → s ≤ r := fun {s r} h g => by
    by_cases q : s ≤ r
    · exact q
    · have : (r + 1) * (r + 1) ≤ s * s := Int.mul_le_mul (by omega) (by omega) (by have := g.h0; omega) (by have := h.h0; omega)
      have := h.lo; have := g.hi
      omega
  have := k h g; have := k g h
  omega
/-- one better root -/
theorem newton_lo {n s x : Int} (h : Rt n s) (hx : 0 < x) : s ≤ (x + n.fdiv x).fdiv 2 := by
  have e1 : n.fdiv x = n / x := Int.fdiv_eq_ediv_of_nonneg n (by omega)
  have e2 : (x + n.fdiv x).fdiv 2 = (x + n.fdiv x) / 2 := Int.fdiv_eq_ediv_of_nonneg _ (by decide)
  rw [e2, e1]
  have d1 := Int.mul_ediv_add_emod n x
  have d2 := Int.emod_lt_of_pos n hx
  have d3 := Int.emod_nonneg n (show x ≠ 0 by omega)
  generalize n / x = q at *
  -- 2 s ≤ x + q
  suffices 2 * s ≤ x + q by omega
  by_cases c : 2 * s ≤ x + q
  · exact c
  · exfalso
    have hq : q ≤ 2 * s - x - 1 := by omega
    have l1 : x * q ≤ x * (2 * s - x - 1) := Int.mul_le_mul_of_nonneg_left hq (by omega)
    have l2 : x * (2 * s - x - 1) = s * s - (s - x) * (s - x) - x := by grind
    have l3 : 0 ≤ (s - x) * (s - x) := by
      by_cases g : 0 ≤ s - x
      · exact Int.mul_nonneg g g
      · exact Int.mul_nonneg_of_nonpos_of_nonpos (by omega) (by omega)
    have := h.lo
    omega
theorem newton_hi {n s x : Int} (h : Rt n s) (hx : s < x) : 2 * ((x + n.fdiv x).fdiv 2) ≤ x + s := by
  have hx0 : 0 < x := by have := h.h0; omega
  have e1 : n.fdiv x = n / x := Int.fdiv_eq_ediv_of_nonneg n (by omega)
  have e2 : (x + n.fdiv x).fdiv 2 = (x + n.fdiv x) / 2 := Int.fdiv_eq_ediv_of_nonneg _ (by decide)
  rw [e2, e1]
  have q : n / x < s + 1 := by
    refine Int.ediv_lt_of_lt_mul hx0 ?_
    have : (s + 1) * (s + 1) ≤ (s + 1) * x := Int.mul_le_mul_of_nonneg_left (by omega) (by have := h.h0; omega)
    have := h.hi
    omega
  omega
/-! ### rests of powers -/
theorem pow_fmod (a m : Int) : ∀ n : Nat, ((a.fmod m) ^ n).fmod m = (a ^ n).fmod m
  | 0 => by rw [Int.pow_zero, Int.pow_zero]
  | n + 1 => by
    rw [Int.pow_succ, Int.pow_succ, Int.mul_fmod, pow_fmod a m n, Int.fmod_fmod, ← Int.mul_fmod]
theorem fmod_abs (a : Int) {m : Int} (h : 0 < m) : (a.fmod m).natAbs ≤ m.natAbs := by
  have := fmod_bd a (show m ≠ 0 by omega)
  omega
/-! ### lowest terms -/
theorem strOk (s : String) : ((Str.ofString s).cps.all fun c => decide (c < 0x110000)) = true := by
  rw [← String.ofList_toList (s := s), PySem.W.Fast.ofString_ofList]
  simp only [Array.all_eq_true]
  intro i hi
  simp only [List.getElem_toArray, List.getElem_map, decide_eq_true_eq]
  generalize (s.toList)[i]'(by simpa using hi) = ch
  have := ch.valid
  show ch.val.toNat < _
  unfold UInt32.isValidChar Nat.isValidChar at this
  omega
theorem iso_loc {φ : List D → M D} {ds ds' : List D} {st s0 s1 : Store} {ns : List Nat} {k : Nat} (q : isoArgs st ds [] [] = some (ds', ns, s0)) (h : φ ds' s0 = .ok (.loc k) s1) : iso φ ds st = φ ds st := by
  unfold iso
  rw [q]
  dsimp only
  rw [h]
  dsimp only
  rw [if_neg (by simp [noLoc])]
/-! ### ends by computation -/
def okv (r : R D) : D := match r with
  | .ok v _ => v
  | _ => .non
def okb (r : R D) : Bool := match r with
  | .ok v _ => noLoc v
  | _ => false
def xcd (r : R D) : Nat := match r with
  | .exc c _ => c + 1
  | _ => 0
theorem iso_okv {φ : List D → M D} {ds : List D} (h : okb (φ ds []) = true) (ha : noLocs ds = true) (st : Store) : iso φ ds st = .ok (okv (φ ds [])) st := by
  cases e : φ ds [] with
  | ok v g =>
    rw [e] at h
    refine iso_pure ?_ ha h st
    rw [e]
    rfl
  | exc c g => rw [e] at h; cases h
  | bad => rw [e] at h; cases h
theorem iso_xcd {φ : List D → M D} {ds : List D} {k : Nat} (h : xcd (φ ds []) = k + 1) (ha : noLocs ds = true) (st : Store) : iso φ ds st = .exc k st := by
  cases e : φ ds [] with
  | ok v g => rw [e] at h; cases h
  | exc c g =>
    rw [e] at h
    refine iso_raise ?_ ha st
    rw [e]
    exact Nat.succ.inj h
  | bad => rw [e] at h; cases h
/-! ### the law's frame -/
theorem iso_cup3 {φ : List D → M D} {ds : List D} {v : D} {c c' : Cup} (h : RetsC (φ (.loc 0 :: ds) [cs c]) v c') (ha : noLocs ds = true) (hv : noLoc v = true) (x y z : List D) : iso φ (.loc 3 :: ds) [x, y, z, cs c] = .ok v [x, y, z, cs c'] := by
  simpa using iso_cupAt (n := 3) (st := [x, y, z, cs c]) h rfl ha hv
theorem cup_i {ns : List Int} {x y z : List D} {c : Cup} (e1 : w_cup ns [.scr] [] = .ok (.loc 3) [x, y, z, cs c]) : iso (w_cup ns) [.scr] [] = .ok (.loc 3) [x, y, z, cs c] := by
  have : iso (w_cup ns) [.scr] [] = w_cup ns [.scr] [] := by
    unfold iso
    rw [isoArgs_pure [] [.scr] [] [] rfl]
    dsimp only
    rw [e1]
    rfl
  rw [this, e1]
theorem rets_ok {d v : D} {s : Store} : Rets (.ok d s) v = (d = v) := (rfl)
theorem retsC_ok {d v : D} {x : List D} {s : Store} {c : Cup} : RetsC (.ok d (x :: s)) v c = (d = v ∧ x = cs c) := (rfl)
theorem raises_ok {c k : Nat} {s : Store} : Mir.Raises (.exc c s) k = (c = k) := (rfl)
theorem okN_ok {e : Mir.Env} {s : Store} {I : Mir.Env → Store → Prop} : OkN (.ok (.next e) s) I = I e s := (rfl)
end Mir
/-! K21P: the text's places and the mirrors of its defs (printed by gen.py). -/
namespace K21
open PySem _root_.L2 Mir
def top (i : Nat) : Stmt := PySem.Challenge.pw_wholesolved_k21_whole_units_as_pairs.main.body.getD i (.Pass ⟨0, 0, 0, 0⟩)

def nerr : Str := ⟨#[]⟩
/-- whether the c-th class of errors is the k-th or one below it -/
def subCls : Nat → Nat → Bool
  | 0, 0 => true
  | 1, 0 => true
  | 1, 1 => true
  | 2, 0 => true
  | 2, 2 => true
  | 3, 0 => true
  | 3, 3 => true
  | 4, 0 => true
  | 4, 4 => true
  | _, _ => false
/-- the class of an error by its number -/
def cod (c : Nat) : Nat := if c < 1000 then c else 4
def subC (c k : Nat) : Bool := subCls (cod c) k
def ms_err (c0 : Nat) : SM := (sSeq (sAsg (eLst (aCons (eTup (aCons (eC (.str ⟨#[110, 117, 109, 98, 101, 114]⟩)) (aCons (eIsE c0 1 (subC c0 1)) aNil))) (aCons (eTup (aCons (eC (.str ⟨#[117, 110, 105, 116]⟩)) (aCons (eIsE c0 1 (subC c0 2)) aNil))) (aCons (eTup (aCons (eC (.str ⟨#[110, 111, 119]⟩)) (aCons (eIsE c0 1 (subC c0 3)) aNil))) aNil)))) (.nm 2))
  (sSeq (sIf (fun env => mTruth ((eIsE c0 1 (subC c0 4)) env)) (sExpr (eM1 gAppend (eVar 2) (aCons (eTup (aCons (eBin gAdd (eC (.str ⟨#[109, 97, 110, 121, 32]⟩)) (eCall (f1 gStr) (aCons (eLim c0 1) aNil))) (aCons (eC (.bl true)) aNil))) aNil))) sNil)
  (sRet (eOrT (eUn (gJoin ⟨#[32]⟩) (eLc (iOfL (eVar 2)) (.tp (.cons (.nm 3) (.cons (.nm 4) .nil))) (fun env => mTruth ((eVar 4) env)) (eVar 3) [3, 4])) (eC (.str ⟨#[111, 116, 104, 101, 114]⟩))))))
def werrOf (c0 : Nat) : Option Str := match ms_err c0 ((List.replicate 5 none).set 1 (some (.exn c0))) [] with
  | .ok (.ret (.str z)) _ => some z
  | _ => none
def werr (c : Nat) : Option Str := if 1000 ≤ c then werrOf c else match c with
  | 0 => werrOf c
  | 1 => werrOf c
  | 2 => werrOf c
  | 3 => werrOf c
  | _ => none
abbrev s_is_whole : Stmt := top 7
def b_is_whole : SM := (sRet (eAnd (eCall (f2 gIsi) (aCons (eVar 0) (aCons (eC (.ty 0)) aNil))) (eAnd (eNot (eCall (f2 gIsi) (aCons (eVar 0) (aCons (eC (.ty 1)) aNil)))) (eChain (iBin cT fun i j => .bl (decide (i ≤ j))) (iBin cT fun i j => .bl (decide (i ≤ j))) (eVar 1) (eVar 0) (eVar 2)))))
def m_is_whole : List D → M D := fnM 3 3 (b_is_whole)
abbrev s_need_whole : Stmt := top 8
def b_need_whole : SM := (sIf (bNot (fun env => mTruth ((eFn 3 m_is_whole (aCons (eVar 0) (aCons (eVar 1) (aCons (eVar 2) aNil)))) env))) (sRaise 1) sNil)
def m_need_whole : List D → M D := fnM 3 3 (b_need_whole)
abbrev s_is_tuple_of : Stmt := top 9
def b_is_tuple_of : SM := (sRet (eAnd (eCall (f2 gIsi) (aCons (eVar 0) (aCons (eC (.ty 3)) aNil))) (eChain (iBin cT fun i j => .bl (decide (i ≤ j))) (iBin cT fun i j => .bl (decide (i ≤ j))) (eVar 1) (eCall (f1 gLen) (aCons (eVar 0) aNil)) (eVar 2))))
def m_is_tuple_of : List D → M D := fnM 3 3 (b_is_tuple_of)
abbrev s_is_integer : Stmt := top 11
def b_is_integer : SM := (sRet (eAnd (eCall (f2 gIsi) (aCons (eVar 0) (aCons (eC (.ty 0)) aNil))) (eNot (eCall (f2 gIsi) (aCons (eVar 0) (aCons (eC (.ty 1)) aNil))))))
def m_is_integer : List D → M D := fnM 1 1 (b_is_integer)
abbrev s_root : Stmt := top 12
def cl1_root : EM Bool := (fun env => mBl (eBin (iBin cT fun i j => .bl (decide (i < j))) (eVar 2) (eVar 1) env))
def l1_root : SM := (sSeq (sAsg (eVar 2) (.nm 1))
  (sAsg (eBin iDiv (eBin gAdd (eVar 1) (eBin iDiv (eVar 0) (eVar 1))) (eC (.int (2)))) (.nm 2)))
def cl2_root : EM Bool := (fun env => mBl (eBin (iBin cT fun i j => .bl (decide (i < j))) (eBin gMul (eVar 1) (eVar 1)) (eVar 0) env))
def l2_root : SM := (sAsg (eBin gMul (eVar 1) (eC (.int (2)))) (.nm 1))
def b_root : SM := (sSeq (sIf (fun env => mBl (eBin (iBin cT fun i j => .bl (decide (i < j))) (eVar 0) (eC (.int (2))) env)) (sRet (eVar 0)) sNil)
  (sSeq (sAsg (eC (.int (2))) (.nm 1))
  (sSeq (sWhile cl2_root l2_root)
  (sSeq (sAsg (eBin iDiv (eBin gAdd (eVar 1) (eBin iDiv (eVar 0) (eVar 1))) (eC (.int (2)))) (.nm 2))
  (sSeq (sWhile cl1_root l1_root)
  (sRet (eVar 1)))))))
def m_root : List D → M D := fnM 1 3 (b_root)
abbrev s_is_square : Stmt := top 13
def b_is_square : SM := (sRet (eAnd (eBin (iBin cT fun i j => .bl (decide (j ≤ i))) (eVar 0) (eC (.int (0)))) (eBin gEq (eBin iPow (eFn 1 m_root (aCons (eVar 0) aNil)) (eC (.int (2)))) (eVar 0))))
def m_is_square : List D → M D := fnM 1 1 (b_is_square)
abbrev s_is_number : Stmt := top 19
def b_is_number : SM := (sRet (eAnd (eFn 3 m_is_whole (aCons (eVar 0) (aCons (eUn iNeg (eC (.int (10000000)))) (aCons (eC (.int (10000000))) aNil)))) (eBin (iBin cT fun i j => .bl (decide (i < j))) (eBin iMod (eCall (f1 gInt) (aCons (eVar 0) aNil)) (eC (.int (4)))) (eC (.int (2))))))
def m_is_number : List D → M D := fnM 1 1 (b_is_number)
abbrev s_need_number : Stmt := top 20
def b_need_number : SM := (sIf (bNot (fun env => mTruth ((eFn 1 m_is_number (aCons (eVar 0) aNil)) env))) (sRaise 1) sNil)
def m_need_number : List D → M D := fnM 1 1 (b_need_number)
abbrev s_is_free_in : Stmt := top 21
def b_is_free_in : SM := (sRet (eAnd (eBin (iBin cT fun i j => .bl (decide (j < i))) (eVar 0) (eC (.int (0)))) (eNot (eFn 1 m_is_square (aCons (eVar 0) aNil)))))
def m_is_free_in : List D → M D := fnM 1 1 (b_is_free_in)
abbrev s_need_free : Stmt := top 22
def b_need_free : SM := (sIf (bNot (fun env => mTruth ((eFn 1 m_is_free_in (aCons (eVar 0) aNil)) env))) (sRaise 3) sNil)
def m_need_free : List D → M D := fnM 1 1 (b_need_free)
abbrev s_size_of : Stmt := top 23
def b_size_of : SM := (sRet (eBin iSub (eBin gMul (eBin gIx (eVar 1) (eC (.int (0)))) (eBin gIx (eVar 1) (eC (.int (0))))) (eBin gMul (eBin gMul (eVar 0) (eBin gIx (eVar 1) (eC (.int (1))))) (eBin gIx (eVar 1) (eC (.int (1)))))))
def m_size_of : List D → M D := fnM 2 2 (b_size_of)
abbrev s_fits : Stmt := top 24
def b_fits : SM := (sSeq (sIf (bOr (bNot (fun env => mTruth ((eFn 3 m_is_tuple_of (aCons (eVar 1) (aCons (eC (.int (2))) (aCons (eC (.int (2))) aNil)))) env))) (bNot (fun env => mTruth ((eCall (f1 gAll) (aCons (eLc (iOf (eVar 1)) (.nm 2) cTrue (eFn 1 m_is_integer (aCons (eVar 2) aNil)) [2]) aNil)) env)))) (sRet (eC (.bl false))) sNil)
  (sRet (eBin (gIn false) (eFn 2 m_size_of (aCons (eVar 0) (aCons (eVar 1) aNil))) (eTup (aCons (eC (.int (4))) (aCons (eUn iNeg (eC (.int (4)))) aNil))))))
def m_fits : List D → M D := fnM 2 3 (b_fits)
abbrev s_need_unit : Stmt := top 25
def b_need_unit : SM := (sSeq (sExpr (eFn 1 m_need_number (aCons (eVar 0) aNil)))
  (sIf (bNot (fun env => mTruth ((eFn 2 m_fits (aCons (eVar 0) (aCons (eVar 1) aNil))) env))) (sRaise 2) sNil))
def m_need_unit : List D → M D := fnM 2 2 (b_need_unit)
abbrev s_norm_of : Stmt := top 26
def b_norm_of : SM := (sRet (eBin iDiv (eFn 2 m_size_of (aCons (eVar 0) (aCons (eVar 1) aNil))) (eC (.int (4)))))
def m_norm_of : List D → M D := fnM 2 2 (b_norm_of)
abbrev s_times : Stmt := top 27
def b_times : SM := (sSeq (sAsg (eVar 1) (.tp (.cons (.nm 3) (.cons (.nm 4) .nil))))
  (sSeq (sAsg (eVar 2) (.tp (.cons (.nm 5) (.cons (.nm 6) .nil))))
  (sRet (eTup (aCons (eBin iDiv (eBin gAdd (eBin gMul (eVar 3) (eVar 5)) (eBin gMul (eBin gMul (eVar 0) (eVar 4)) (eVar 6))) (eC (.int (2)))) (aCons (eBin iDiv (eBin gAdd (eBin gMul (eVar 3) (eVar 6)) (eBin gMul (eVar 4) (eVar 5))) (eC (.int (2)))) aNil))))))
def m_times : List D → M D := fnM 3 7 (b_times)
abbrev s_back : Stmt := top 28
def b_back : SM := (sRet (eIf (fun env => mBl (eBin gEq (eFn 2 m_norm_of (aCons (eVar 0) (aCons (eVar 1) aNil))) (eC (.int (1))) env)) (eTup (aCons (eBin gIx (eVar 1) (eC (.int (0)))) (aCons (eUn iNeg (eBin gIx (eVar 1) (eC (.int (1))))) aNil))) (eTup (aCons (eUn iNeg (eBin gIx (eVar 1) (eC (.int (0))))) (aCons (eBin gIx (eVar 1) (eC (.int (1)))) aNil)))))
def m_back : List D → M D := fnM 2 2 (b_back)
abbrev s_opposite : Stmt := top 29
def b_opposite : SM := (sRet (eTup (aCons (eUn iNeg (eBin gIx (eVar 0) (eC (.int (0))))) (aCons (eUn iNeg (eBin gIx (eVar 0) (eC (.int (1))))) aNil))))
def m_opposite : List D → M D := fnM 1 1 (b_opposite)
abbrev s_bits_of : Stmt := top 30
def cl1_bits_of : EM Bool := (fun env => mBl (eBin (iBin cT fun i j => .bl (decide (j < i))) (eVar 0) (eC (.int (0))) env))
def l1_bits_of : SM := (sSeq (sExpr (eM1 gAppend (eVar 1) (aCons (eBin iMod (eCall (f1 gInt) (aCons (eVar 0) aNil)) (eC (.int (2)))) aNil)))
  (sAsg (eBin iDiv (eVar 0) (eC (.int (2)))) (.nm 0)))
def b_bits_of : SM := (sSeq (sAsg (eLst aNil) (.nm 1))
  (sSeq (sWhile cl1_bits_of l1_bits_of)
  (sRet (eUn gRev (eVar 1)))))
def m_bits_of : List D → M D := fnM 1 2 (b_bits_of)
abbrev s_raised : Stmt := top 31
def l1_raised : SM := (sSeq (sIf (fun env => mBl (eBin (iBin cT fun i j => .bl (decide (j ≤ i))) (eCall (f1 gAbs) (aCons (eBin gIx (eVar 4) (eC (.int (0)))) aNil)) (eVar 3) env)) (sRet (eC .non)) sNil)
  (sSeq (sAsg (eFn 3 m_times (aCons (eVar 0) (aCons (eVar 4) (aCons (eVar 4) aNil)))) (.nm 4))
  (sAsg (eIf (fun env => mBl (eBin gEq (eVar 5) (eC (.int (1))) env)) (eFn 3 m_times (aCons (eVar 0) (aCons (eVar 4) (aCons (eVar 1) aNil)))) (eVar 4)) (.nm 4))))
def b_raised : SM := (sSeq (sIf (fun env => mBl (eBin gEq (eVar 2) (eC (.int (0))) env)) (sRet (eC (.tup [(.int (2)), (.int (0))]))) sNil)
  (sSeq (sAsg (eVar 1) (.nm 4))
  (sSeq (sFor (iOf (eSl (eFn 1 m_bits_of (aCons (eVar 2) aNil)) (pSome (eC (.int (1)))) pNone)) (.nm 5) l1_raised)
  (sRet (eIf (fun env => mBl (eBin (iBin cT fun i j => .bl (decide (i < j))) (eCall (f1 gAbs) (aCons (eBin gIx (eVar 4) (eC (.int (0)))) aNil)) (eVar 3) env)) (eVar 4) (eC .non))))))
def m_raised : List D → M D := fnM 4 6 (b_raised)
abbrev s_grown : Stmt := top 32
def l1_grown : SM := (sAsg (eBin gMul (eBin gMul (eVar 2) (eVar 2)) (eIf (fun env => mBl (eBin gEq (eVar 3) (eC (.int (1))) env)) (eVar 0) (eC (.int (1))))) (.nm 2))
def b_grown : SM := (sSeq (sAsg (eC (.int (1))) (.nm 2))
  (sSeq (sFor (iOf (eFn 1 m_bits_of (aCons (eVar 1) aNil))) (.nm 3) l1_grown)
  (sRet (eVar 2))))
def m_grown : List D → M D := fnM 2 4 (b_grown)
abbrev s_great : Stmt := top 33
def b_great : SM := (sRet (eFn 2 m_grown (aCons (eC (.int (10))) (aCons (eC (.int (2000))) aNil))))
def m_great : List D → M D := fnM 0 0 (b_great)
abbrev s_is_above : Stmt := top 34
def b_is_above : SM := (sRet (eAnd (eBin (iBin cT fun i j => .bl (decide (j < i))) (eBin gIx (eVar 0) (eC (.int (0)))) (eC (.int (0)))) (eBin (iBin cT fun i j => .bl (decide (j < i))) (eBin gIx (eVar 0) (eC (.int (1)))) (eC (.int (0))))))
def m_is_above : List D → M D := fnM 1 1 (b_is_above)
abbrev s_is_discriminant : Stmt := top 35
def b_is_discriminant : SM := (sRet (eFn 1 m_is_number (aCons (eVar 0) aNil)))
def m_is_discriminant : List D → M D := fnM 1 1 (b_is_discriminant)
abbrev s_is_free : Stmt := top 36
def b_is_free : SM := (sSeq (sExpr (eFn 1 m_need_number (aCons (eVar 0) aNil)))
  (sRet (eFn 1 m_is_free_in (aCons (eVar 0) aNil))))
def m_is_free : List D → M D := fnM 1 1 (b_is_free)
abbrev s_is_unit : Stmt := top 37
def b_is_unit : SM := (sSeq (sExpr (eFn 1 m_need_number (aCons (eVar 0) aNil)))
  (sRet (eFn 2 m_fits (aCons (eVar 0) (aCons (eVar 1) aNil)))))
def m_is_unit : List D → M D := fnM 2 2 (b_is_unit)
abbrev s_unit_norm : Stmt := top 38
def b_unit_norm : SM := (sSeq (sExpr (eFn 2 m_need_unit (aCons (eVar 0) (aCons (eVar 1) aNil))))
  (sRet (eFn 2 m_norm_of (aCons (eVar 0) (aCons (eVar 1) aNil)))))
def m_unit_norm : List D → M D := fnM 2 2 (b_unit_norm)
abbrev s_unit_product : Stmt := top 39
def b_unit_product : SM := (sSeq (sExpr (eFn 2 m_need_unit (aCons (eVar 0) (aCons (eVar 1) aNil))))
  (sSeq (sExpr (eFn 2 m_need_unit (aCons (eVar 0) (aCons (eVar 2) aNil))))
  (sRet (eFn 3 m_times (aCons (eVar 0) (aCons (eVar 1) (aCons (eVar 2) aNil)))))))
def m_unit_product : List D → M D := fnM 3 3 (b_unit_product)
abbrev s_unit_back : Stmt := top 40
def b_unit_back : SM := (sSeq (sExpr (eFn 2 m_need_unit (aCons (eVar 0) (aCons (eVar 1) aNil))))
  (sRet (eFn 2 m_back (aCons (eVar 0) (aCons (eVar 1) aNil)))))
def m_unit_back : List D → M D := fnM 2 2 (b_unit_back)
abbrev s_unit_opposite : Stmt := top 41
def b_unit_opposite : SM := (sSeq (sExpr (eFn 2 m_need_unit (aCons (eVar 0) (aCons (eVar 1) aNil))))
  (sRet (eFn 1 m_opposite (aCons (eVar 1) aNil))))
def m_unit_opposite : List D → M D := fnM 2 2 (b_unit_opposite)
abbrev s_unit_power : Stmt := top 42
def b_unit_power : SM := (sSeq (sExpr (eFn 2 m_need_unit (aCons (eVar 0) (aCons (eVar 1) aNil))))
  (sSeq (sExpr (eFn 3 m_need_whole (aCons (eVar 2) (aCons (eUn iNeg (eC (.int (10000)))) (aCons (eC (.int (10000))) aNil)))))
  (sSeq (sAsg (eFn 4 m_raised (aCons (eVar 0) (aCons (eIf (fun env => mBl (eBin (iBin cT fun i j => .bl (decide (j ≤ i))) (eVar 2) (eC (.int (0))) env)) (eVar 1) (eFn 2 m_back (aCons (eVar 0) (aCons (eVar 1) aNil)))) (aCons (eCall (f1 gAbs) (aCons (eVar 2) aNil)) (aCons (eFn 0 m_great aNil) aNil))))) (.nm 3))
  (sSeq (sIf (fun env => mBl (eBin (gIsN false) (eVar 3) (eC .non) env)) (sRaiseL (aCons (eC (.int (2000))) aNil)) sNil)
  (sRet (eVar 3))))))
def m_unit_power : List D → M D := fnM 3 4 (b_unit_power)
abbrev s_is_above_one : Stmt := top 43
def b_is_above_one : SM := (sSeq (sExpr (eFn 2 m_need_unit (aCons (eVar 0) (aCons (eVar 1) aNil))))
  (sSeq (sExpr (eFn 1 m_need_free (aCons (eVar 0) aNil)))
  (sRet (eFn 1 m_is_above (aCons (eVar 1) aNil)))))
def m_is_above_one : List D → M D := fnM 2 2 (b_is_above_one)
def ftab : FTab := fun m => match m with | 24 => some (2, m_is_unit) | 25 => some (2, m_unit_norm) | 26 => some (3, m_unit_product) | 27 => some (2, m_unit_back) | 28 => some (2, m_unit_opposite) | 29 => some (3, m_unit_power) | 30 => some (2, m_is_above_one) | _ => none
abbrev s_law_cup : Stmt := top 45
abbrev m_law_cup : List Int → List D → M D := Mir.w_cup
abbrev s_law_roll : Stmt := top 46
abbrev m_law_roll : List D → M D := Mir.w_roll
abbrev s_law_some : Stmt := top 47
abbrev m_law_some : List D → M D := Mir.w_some
abbrev s_law_sort : Stmt := top 48
abbrev m_law_sort : List D → M D := Mir.w_sort
abbrev s_law_like : Stmt := top 49
abbrev m_law_like : Nat → List D → M D := Mir.w_like
abbrev s_law_root : Stmt := top 50
def l1_law_root : SM := (sSeq (sAsg (eBin iDiv (eBin gAdd (eVar 1) (eVar 2)) (eC (.int (2)))) (.nm 4))
  (sIf (fun env => mBl (eBin (iBin cT fun i j => .bl (decide (i ≤ j))) (eBin gMul (eVar 4) (eVar 4)) (eVar 0) env)) (sAsg (eVar 4) (.nm 1)) (sAsg (eVar 4) (.nm 2))))
def l2_law_root : SM := (sAsg (eBin gMul (eVar 2) (eC (.int (2)))) (.nm 2))
def b_law_root : SM := (sSeq (sAsg (eTup (aCons (eC (.int (0))) (aCons (eC (.int (1))) aNil))) (.tp (.cons (.nm 1) (.cons (.nm 2) .nil))))
  (sSeq (sFor (iRange (aCons (eUn gBits (eVar 0)) aNil)) (.nm 3) l2_law_root)
  (sSeq (sFor (iRange (aCons (eBin gAdd (eUn gBits (eVar 0)) (eC (.int (1)))) aNil)) (.nm 3) l1_law_root)
  (sRet (eVar 1)))))
def m_law_root : List D → M D := fnM 1 5 (b_law_root)
abbrev s_law_is_unit : Stmt := top 51
def b_law_is_unit : SM := (sSeq (sIf (bOr (fun env => mBl (eBin gNe (eFn 1 m_law_sort (aCons (eVar 1) aNil)) (eC (.int (4))) env)) (bOr (fun env => mBl (eBin gNe (eCall (f1 gLen) (aCons (eVar 1) aNil)) (eC (.int (2))) env)) (fun env => mBl (eBin gNe (eLc (iOf (eVar 1)) (.nm 2) (fun env => mBl (eBin gNe (eFn 1 m_law_sort (aCons (eVar 2) aNil)) (eC (.int (2))) env)) (eVar 2) [2]) (eLst aNil) env)))) (sRet (eC (.bl false))) sNil)
  (sRet (eBin (gIn false) (eBin iSub (eBin iPow (eBin gIx (eVar 1) (eC (.int (0)))) (eC (.int (2)))) (eBin gMul (eVar 0) (eBin iPow (eBin gIx (eVar 1) (eC (.int (1)))) (eC (.int (2)))))) (eTup (aCons (eC (.int (4))) (aCons (eUn iNeg (eC (.int (4)))) aNil))))))
def m_law_is_unit : List D → M D := fnM 2 3 (b_law_is_unit)
abbrev s_law_norm : Stmt := top 52
def b_law_norm : SM := (sRet (eIf (fun env => mBl (eBin gEq (eBin iSub (eBin iPow (eBin gIx (eVar 1) (eC (.int (0)))) (eC (.int (2)))) (eBin gMul (eVar 0) (eBin iPow (eBin gIx (eVar 1) (eC (.int (1)))) (eC (.int (2)))))) (eC (.int (4))) env)) (eC (.int (1))) (eUn iNeg (eC (.int (1))))))
def m_law_norm : List D → M D := fnM 2 2 (b_law_norm)
abbrev s_law_times : Stmt := top 53
def b_law_times : SM := (sSeq (sAsg (eBin iMod (eCall (f1 gInt) (aCons (eVar 0) aNil)) (eC (.int (2)))) (.nm 3))
  (sSeq (sPar 4 5 (aCons (eBin iDiv (eBin iSub (eBin gIx (eVar 1) (eC (.int (0)))) (eBin gMul (eVar 3) (eBin gIx (eVar 1) (eC (.int (1)))))) (eC (.int (2)))) (aCons (eBin iDiv (eBin iSub (eBin gIx (eVar 2) (eC (.int (0)))) (eBin gMul (eVar 3) (eBin gIx (eVar 2) (eC (.int (1)))))) (eC (.int (2)))) aNil)))
  (sSeq (sAsg (eBin gAdd (eBin gMul (eVar 4) (eVar 5)) (eBin gMul (eBin gMul (eBin gIx (eVar 1) (eC (.int (1)))) (eBin gIx (eVar 2) (eC (.int (1))))) (eBin iDiv (eBin iSub (eVar 0) (eVar 3)) (eC (.int (4)))))) (.nm 6))
  (sSeq (sAsg (eBin gAdd (eBin gAdd (eBin gMul (eVar 4) (eBin gIx (eVar 2) (eC (.int (1))))) (eBin gMul (eVar 5) (eBin gIx (eVar 1) (eC (.int (1)))))) (eBin gMul (eBin gMul (eVar 3) (eBin gIx (eVar 1) (eC (.int (1))))) (eBin gIx (eVar 2) (eC (.int (1)))))) (.nm 7))
  (sRet (eTup (aCons (eBin gAdd (eBin gMul (eC (.int (2))) (eVar 6)) (eBin gMul (eVar 3) (eVar 7))) (aCons (eVar 7) aNil))))))))
def m_law_times : List D → M D := fnM 3 8 (b_law_times)
abbrev s_law_power : Stmt := top 54
def l1_law_power : SM := (sAsg (eFn 3 m_law_times (aCons (eVar 0) (aCons (eVar 4) (aCons (eVar 3) aNil)))) (.nm 4))
def b_law_power : SM := (sSeq (sAsg (eVar 1) (.nm 3))
  (sSeq (sIf (fun env => mBl (eBin (iBin cT fun i j => .bl (decide (i < j))) (eVar 2) (eC (.int (0))) env)) (sAsg (eIf (fun env => mBl (eBin gEq (eFn 2 m_law_norm (aCons (eVar 0) (aCons (eVar 1) aNil))) (eC (.int (1))) env)) (eTup (aCons (eBin gIx (eVar 1) (eC (.int (0)))) (aCons (eUn iNeg (eBin gIx (eVar 1) (eC (.int (1))))) aNil))) (eTup (aCons (eUn iNeg (eBin gIx (eVar 1) (eC (.int (0))))) (aCons (eBin gIx (eVar 1) (eC (.int (1)))) aNil)))) (.nm 3)) sNil)
  (sSeq (sAsg (eTup (aCons (eC (.int (2))) (aCons (eC (.int (0))) aNil))) (.nm 4))
  (sSeq (sFor (iRange (aCons (eCall (f1 gAbs) (aCons (eVar 2) aNil)) aNil)) (.nm 5) l1_law_power)
  (sRet (eVar 4))))))
def m_law_power : List D → M D := fnM 3 6 (b_law_power)
abbrev s_law_first : Stmt := top 55
def l1_law_first : SM := (sSeq (sAsg (eBin gAdd (eBin gMul (eBin gMul (eVar 0) (eVar 1)) (eVar 1)) (eVar 2)) (.nm 3))
  (sIf (bAnd (fun env => mBl (eBin (iBin cT fun i j => .bl (decide (j < i))) (eVar 3) (eC (.int (0))) env)) (fun env => mBl (eBin gEq (eBin iPow (eFn 1 m_law_root (aCons (eVar 3) aNil)) (eC (.int (2)))) (eVar 3) env))) (sRet (eTup (aCons (eFn 1 m_law_root (aCons (eVar 3) aNil)) (aCons (eVar 1) aNil)))) sNil))
def l2_law_first : SM := (sFor (iOf (eTup (aCons (eUn iNeg (eC (.int (4)))) (aCons (eC (.int (4))) aNil)))) (.nm 2) l1_law_first)
def b_law_first : SM := (sSeq (sFor (iRange (aCons (eC (.int (1))) (aCons (eC (.int (4000))) aNil))) (.nm 1) l2_law_first)
  (sRet (eC .non)))
def m_law_first : List D → M D := fnM 1 4 (b_law_first)
abbrev s_law_error : Stmt := top 56
abbrev s_law_number : Stmt := top 57
def b_law_number : SM := (sSeq (sAsg (eLst (aCons (eC (.int (5))) (aCons (eC (.int (8))) (aCons (eC (.int (12))) (aCons (eC (.int (13))) (aCons (eC (.int (17))) (aCons (eC (.int (20))) (aCons (eC (.int (21))) (aCons (eC (.int (24))) (aCons (eC (.int (28))) (aCons (eC (.int (29))) (aCons (eC (.int (32))) (aCons (eC (.int (33))) (aCons (eC (.int (37))) (aCons (eC (.int (40))) (aCons (eC (.int (41))) (aCons (eC (.int (44))) (aCons (eC (.int (45))) (aCons (eC (.int (53))) (aCons (eC (.int (56))) (aCons (eC (.int (57))) (aCons (eC (.int (60))) (aCons (eC (.int (61))) (aCons (eC (.int (65))) (aCons (eC (.int (69))) (aCons (eC (.int (72))) (aCons (eC (.int (73))) (aCons (eC (.int (77))) (aCons (eC (.int (80))) (aCons (eC (.int (85))) aNil)))))))))))))))))))))))))))))) (.nm 1))
  (sRet (eFn 2 m_law_some (aCons (eVar 0) (aCons (eBin gAdd (eBin gMul (eLst (aCons (eFn 2 m_law_some (aCons (eVar 0) (aCons (eVar 1) aNil))) aNil)) (eC (.int (5)))) (eLst (aCons (eFn 2 m_law_some (aCons (eVar 0) (aCons (eLst (aCons (eUn iNeg (eC (.int (3)))) (aCons (eUn iNeg (eC (.int (4)))) (aCons (eUn iNeg (eC (.int (7)))) (aCons (eUn iNeg (eC (.int (8)))) (aCons (eUn iNeg (eC (.int (11)))) (aCons (eUn iNeg (eC (.int (20)))) (aCons (eC (.int (0))) (aCons (eC (.int (1))) (aCons (eC (.int (4))) (aCons (eC (.int (9))) (aCons (eC (.int (16))) (aCons (eC (.int (25))) aNil))))))))))))) aNil))) aNil))) aNil)))))
def m_law_number : List D → M D := fnM 1 2 (b_law_number)
abbrev s_law_unit : Stmt := top 58
def l1_law_unit : SM := (sAsg (eBin gAdd (eVar 2) (eLc (iRange (aCons (eUn iNeg (eC (.int (2)))) (aCons (eC (.int (3))) aNil))) (.nm 5) (fun env => mTruth ((eFn 2 m_law_is_unit (aCons (eVar 1) (aCons (eTup (aCons (eVar 3) (aCons (eVar 5) aNil))) aNil))) env)) (eTup (aCons (eVar 3) (aCons (eVar 5) aNil))) [5])) (.nm 2))
def b_law_unit : SM := (sSeq (sIf (fun env => mBl (eBin gEq (eVar 1) (eC (.int (0))) env)) (sRet (eTup (aCons (eBin iSub (eC (.int (2))) (eBin gMul (eC (.int (4))) (eFn 2 m_law_roll (aCons (eVar 0) (aCons (eC (.int (2))) aNil))))) (aCons (eBin iSub (eFn 2 m_law_roll (aCons (eVar 0) (aCons (eC (.int (21))) aNil))) (eC (.int (10)))) aNil)))) sNil)
  (sSeq (sIf (bOr (fun env => mBl (eBin (iBin cT fun i j => .bl (decide (i < j))) (eVar 1) (eC (.int (0))) env)) (fun env => mBl (eBin gEq (eBin iPow (eFn 1 m_law_root (aCons (eVar 1) aNil)) (eC (.int (2)))) (eVar 1) env))) (sSeq (sAsg (eLst aNil) (.nm 2))
  (sSeq (sFor (iRange (aCons (eUn iNeg (eC (.int (2)))) (aCons (eC (.int (3))) aNil))) (.nm 3) l1_law_unit)
  (sRet (eFn 2 m_law_some (aCons (eVar 0) (aCons (eVar 2) aNil)))))) sNil)
  (sSeq (sAsg (eFn 3 m_law_power (aCons (eVar 1) (aCons (eFn 1 m_law_first (aCons (eVar 1) aNil)) (aCons (eBin iSub (eFn 2 m_law_roll (aCons (eVar 0) (aCons (eC (.int (11))) aNil))) (eC (.int (5)))) aNil)))) (.nm 4))
  (sRet (eIf (fun env => mBl (eBin gEq (eFn 2 m_law_roll (aCons (eVar 0) (aCons (eC (.int (2))) aNil))) (eC (.int (0))) env)) (eVar 4) (eTup (aCons (eUn iNeg (eBin gIx (eVar 4) (eC (.int (0))))) (aCons (eUn iNeg (eBin gIx (eVar 4) (eC (.int (1))))) aNil))))))))
def m_law_unit : List D → M D := fnM 2 6 (b_law_unit)
abbrev s_law_is_free : Stmt := top 59
def b_law_is_free : SM := (sRet (eAnd (eBin (iBin cT fun i j => .bl (decide (j < i))) (eVar 0) (eC (.int (0)))) (eBin gNe (eBin iPow (eFn 1 m_law_root (aCons (eVar 0) aNil)) (eC (.int (2)))) (eVar 0))))
def m_law_is_free : List D → M D := fnM 1 1 (b_law_is_free)
abbrev s_law_near : Stmt := top 60
def b_law_near : SM := (sSeq (sAsg (eVar 1) (.tp (.cons (.nm 2) (.cons (.nm 3) .nil))))
  (sSeq (sAsg (eLst (aCons (eVar 1) (aCons (eTup (aCons (eVar 2) (aCons (eUn iNeg (eVar 3)) aNil))) (aCons (eTup (aCons (eUn iNeg (eVar 2)) (aCons (eVar 3) aNil))) (aCons (eTup (aCons (eVar 3) (aCons (eVar 2) aNil))) (aCons (eTup (aCons (eBin gAdd (eVar 2) (eC (.int (1)))) (aCons (eVar 3) aNil))) (aCons (eTup (aCons (eVar 2) (aCons (eBin gAdd (eVar 3) (eC (.int (1)))) aNil))) (aCons (eTup (aCons (eBin gMul (eC (.int (2))) (eVar 2)) (aCons (eVar 3) aNil))) (aCons (eLst (aCons (eVar 2) (aCons (eVar 3) aNil))) (aCons (eTup (aCons (eVar 2) aNil)) (aCons (eTup (aCons (eVar 2) (aCons (eVar 3) (aCons (eC (.int (0))) aNil)))) (aCons (eTup (aCons (eVar 2) (aCons (eC .non) aNil))) (aCons (eTup (aCons (eCall (f1 gStr) (aCons (eVar 2) aNil)) (aCons (eVar 3) aNil))) aNil))))))))))))) (.nm 4))
  (sRet (eBin gAdd (eVar 4) (eLst (aCons (eC .non) (aCons (eVar 2) (aCons (eTup (aCons (eBin iSub (eBin gAdd (eVar 2) (eFn 2 m_law_roll (aCons (eVar 0) (aCons (eC (.int (7))) aNil)))) (eC (.int (3)))) (aCons (eBin iSub (eBin gAdd (eVar 3) (eFn 2 m_law_roll (aCons (eVar 0) (aCons (eC (.int (7))) aNil)))) (eC (.int (3)))) aNil))) aNil))))))))
def m_law_near : List D → M D := fnM 2 5 (b_law_near)
abbrev s_law_right : Stmt := top 61
def b_law_right : SM := (sSeq (sAsg (eTup (aCons (eFn 2 m_law_unit (aCons (eVar 0) (aCons (eVar 1) aNil))) (aCons (eFn 2 m_law_unit (aCons (eVar 0) (aCons (eVar 1) aNil))) aNil))) (.tp (.cons (.nm 2) (.cons (.nm 3) .nil))))
  (sSeq (sIf (bNot (fun env => mTruth ((eFn 2 (m_law_like 8) (aCons (eLst (aCons (eFn 1 m_is_discriminant (aCons (eVar 1) aNil)) (aCons (eFn 1 m_is_free (aCons (eVar 1) aNil)) aNil))) (aCons (eLst (aCons (eC (.bl true)) (aCons (eFn 1 m_law_is_free (aCons (eVar 1) aNil)) aNil))) aNil))) env))) (sRet (eC (.bl false))) sNil)
  (sSeq (sIf (fun env => mBl (eBin gNe (eLc (iOf (eFn 2 m_law_near (aCons (eVar 0) (aCons (eVar 2) aNil)))) (.nm 8) (bNot (fun env => mTruth ((eFn 2 (m_law_like 8) (aCons (eFn 2 m_is_unit (aCons (eVar 1) (aCons (eVar 8) aNil))) (aCons (eFn 2 m_law_is_unit (aCons (eVar 1) (aCons (eVar 8) aNil))) aNil))) env))) (eVar 8) [8]) (eLst aNil) env)) (sRet (eC (.bl false))) sNil)
  (sSeq (sPar 4 5 (aCons (eFn 3 m_law_times (aCons (eVar 1) (aCons (eVar 2) (aCons (eVar 3) aNil)))) (aCons (eBin iSub (eFn 2 m_law_roll (aCons (eVar 0) (aCons (eC (.int (17))) aNil))) (eC (.int (8)))) aNil)))
  (sSeq (sAsg (eLst (aCons (eFn 3 m_unit_product (aCons (eVar 1) (aCons (eVar 2) (aCons (eVar 3) aNil)))) (aCons (eFn 2 m_unit_norm (aCons (eVar 1) (aCons (eVar 2) aNil))) (aCons (eFn 2 m_unit_norm (aCons (eVar 1) (aCons (eVar 4) aNil))) (aCons (eFn 2 m_unit_opposite (aCons (eVar 1) (aCons (eVar 2) aNil))) aNil))))) (.nm 6))
  (sSeq (sAsg (eLst (aCons (eVar 4) (aCons (eFn 2 m_law_norm (aCons (eVar 1) (aCons (eVar 2) aNil))) (aCons (eBin gMul (eFn 2 m_law_norm (aCons (eVar 1) (aCons (eVar 2) aNil))) (eFn 2 m_law_norm (aCons (eVar 1) (aCons (eVar 3) aNil)))) (aCons (eTup (aCons (eUn iNeg (eBin gIx (eVar 2) (eC (.int (0))))) (aCons (eUn iNeg (eBin gIx (eVar 2) (eC (.int (1))))) aNil))) aNil))))) (.nm 7))
  (sSeq (sAsg (eBin gAdd (eVar 6) (eLst (aCons (eFn 2 m_unit_back (aCons (eVar 1) (aCons (eVar 2) aNil))) (aCons (eFn 3 m_unit_power (aCons (eVar 1) (aCons (eVar 2) (aCons (eVar 5) aNil)))) (aCons (eFn 3 m_unit_product (aCons (eVar 1) (aCons (eFn 2 m_unit_back (aCons (eVar 1) (aCons (eVar 2) aNil))) (aCons (eVar 2) aNil)))) aNil))))) (.nm 6))
  (sSeq (sAsg (eBin gAdd (eVar 7) (eLst (aCons (eFn 3 m_law_power (aCons (eVar 1) (aCons (eVar 2) (aCons (eUn iNeg (eC (.int (1)))) aNil)))) (aCons (eFn 3 m_law_power (aCons (eVar 1) (aCons (eVar 2) (aCons (eVar 5) aNil)))) (aCons (eTup (aCons (eC (.int (2))) (aCons (eC (.int (0))) aNil))) aNil))))) (.nm 7))
  (sSeq (sIf (bNot (fun env => mTruth ((eFn 2 (m_law_like 8) (aCons (eVar 6) (aCons (eVar 7) aNil))) env))) (sRet (eC (.bl false))) sNil)
  (sSeq (sIf (bNot (fun env => mTruth ((eFn 1 m_law_is_free (aCons (eVar 1) aNil)) env))) (sRet (eBin gEq (eErr werr nerr (eFn 2 m_is_above_one (aCons (eVar 1) (aCons (eVar 2) aNil)))) (eC (.str ⟨#[110, 111, 119]⟩)))) sNil)
  (sRet (eFn 2 (m_law_like 8) (aCons (eFn 2 m_is_above_one (aCons (eVar 1) (aCons (eVar 2) aNil))) (aCons (eAnd (eBin (iBin cT fun i j => .bl (decide (j < i))) (eBin gIx (eVar 2) (eC (.int (0)))) (eC (.int (0)))) (eBin (iBin cT fun i j => .bl (decide (j < i))) (eBin gIx (eVar 2) (eC (.int (1)))) (eC (.int (0))))) aNil))))))))))))))
def m_law_right : List D → M D := fnM 2 9 (b_law_right)
abbrev s_law_ten : Stmt := top 64
def l1_law_ten : SM := (sAsg (eBin gMul (eVar 1) (eC (.int (10)))) (.nm 1))
def b_law_ten : SM := (sSeq (sAsg (eC (.int (1))) (.nm 1))
  (sSeq (sFor (iRange (aCons (eVar 0) aNil)) (.nm 2) l1_law_ten)
  (sRet (eVar 1))))
def m_law_ten : List D → M D := fnM 1 3 (b_law_ten)
abbrev s_law_digits_right : Stmt := top 62
def b_law_digits_right : SM := (sSeq (sAsg (eTup (aCons (eTup (aCons (eC (.int (3))) (aCons (eC (.int (1))) aNil))) (aCons (eFn 1 m_law_ten (aCons (eC (.int (2000))) aNil)) aNil))) (.tp (.cons (.nm 0) (.cons (.nm 1) .nil))))
  (sSeq (sAsg (eLc (iOf (eTup (aCons (eC (.int (4784))) (aCons (eC (.int (4785))) (aCons (eUn iNeg (eC (.int (4784)))) (aCons (eUn iNeg (eC (.int (4785)))) (aCons (eC (.int (10000))) aNil))))))) (.nm 5) cTrue (eErr werr nerr (eFn 3 m_unit_power (aCons (eC (.int (5))) (aCons (eVar 0) (aCons (eVar 5) aNil))))) [5]) (.nm 2))
  (sSeq (sIf (fun env => mBl (eBin gNe (eVar 2) (eLst (aCons (eC (.str ⟨#[]⟩)) (aCons (eC (.str ⟨#[109, 97, 110, 121, 32, 50, 48, 48, 48]⟩)) (aCons (eC (.str ⟨#[]⟩)) (aCons (eC (.str ⟨#[109, 97, 110, 121, 32, 50, 48, 48, 48]⟩)) (aCons (eC (.str ⟨#[109, 97, 110, 121, 32, 50, 48, 48, 48]⟩)) aNil)))))) env)) (sRet (eC (.bl false))) sNil)
  (sSeq (sAsg (eFn 3 m_unit_power (aCons (eC (.int (5))) (aCons (eVar 0) (aCons (eC (.int (4784))) aNil)))) (.nm 3))
  (sSeq (sIf (bOr (bNot (fun env => mTruth ((eFn 2 m_law_is_unit (aCons (eC (.int (5))) (aCons (eVar 3) aNil))) env))) (bOr (fun env => mBl (eBin (iBin cT fun i j => .bl (decide (j ≤ i))) (eBin gIx (eVar 3) (eC (.int (0)))) (eVar 1) env)) (bOr (fun env => mBl (eBin (iBin cT fun i j => .bl (decide (i < j))) (eBin gMul (eC (.int (10))) (eBin gIx (eVar 3) (eC (.int (0))))) (eVar 1) env)) (fun env => mBl (eBin gNe (eFn 3 m_unit_power (aCons (eC (.int (5))) (aCons (eTup (aCons (eC (.int (1))) (aCons (eC (.int (1))) aNil))) (aCons (eC (.int (9568))) aNil)))) (eVar 3) env))))) (sRet (eC (.bl false))) sNil)
  (sSeq (sAsg (eLc (iOf (eTup (aCons (eC (.int (0))) (aCons (eC (.int (1))) (aCons (eUn iNeg (eC (.int (1)))) aNil))))) (.nm 5) cTrue (eErr werr nerr (eFn 3 m_unit_power (aCons (eC (.int (5))) (aCons (eFn 3 m_unit_product (aCons (eC (.int (5))) (aCons (eVar 3) (aCons (eVar 0) aNil)))) (aCons (eVar 5) aNil))))) [5]) (.nm 2))
  (sSeq (sIf (bOr (fun env => mBl (eBin gNe (eVar 2) (eLst (aCons (eC (.str ⟨#[]⟩)) (aCons (eC (.str ⟨#[109, 97, 110, 121, 32, 50, 48, 48, 48]⟩)) (aCons (eC (.str ⟨#[109, 97, 110, 121, 32, 50, 48, 48, 48]⟩)) aNil)))) env)) (fun env => mBl (eBin gNe (eFn 3 m_unit_power (aCons (eC (.int (5))) (aCons (eFn 3 m_unit_product (aCons (eC (.int (5))) (aCons (eVar 3) (aCons (eVar 0) aNil)))) (aCons (eC (.int (0))) aNil)))) (eTup (aCons (eC (.int (2))) (aCons (eC (.int (0))) aNil))) env))) (sRet (eC (.bl false))) sNil)
  (sSeq (sAsg (eLst (aCons (eFn 3 m_unit_power (aCons (eUn iNeg (eC (.int (3)))) (aCons (eTup (aCons (eC (.int (1))) (aCons (eC (.int (1))) aNil))) (aCons (eC (.int (10000))) aNil)))) (aCons (eFn 3 m_unit_power (aCons (eUn iNeg (eC (.int (3)))) (aCons (eTup (aCons (eC (.int (1))) (aCons (eC (.int (1))) aNil))) (aCons (eUn iNeg (eC (.int (9999)))) aNil)))) (aCons (eFn 3 m_unit_power (aCons (eUn iNeg (eC (.int (4)))) (aCons (eTup (aCons (eC (.int (0))) (aCons (eC (.int (1))) aNil))) (aCons (eC (.int (9998))) aNil)))) (aCons (eFn 3 m_unit_power (aCons (eC (.int (0))) (aCons (eTup (aCons (eC (.int (2))) (aCons (eC (.int (5))) aNil))) (aCons (eC (.int (10000))) aNil)))) aNil))))) (.nm 4))
  (sSeq (sAsg (eBin gAdd (eVar 4) (eLst (aCons (eFn 3 m_unit_power (aCons (eC (.int (0))) (aCons (eTup (aCons (eUn iNeg (eC (.int (2)))) (aCons (eC (.int (3))) aNil))) (aCons (eC (.int (5))) aNil)))) (aCons (eFn 3 m_unit_power (aCons (eC (.int (1))) (aCons (eTup (aCons (eC (.int (0))) (aCons (eC (.int (2))) aNil))) (aCons (eC (.int (3))) aNil)))) (aCons (eFn 3 m_unit_power (aCons (eC (.int (0))) (aCons (eTup (aCons (eC (.int (2))) (aCons (eVar 1) aNil))) (aCons (eC (.int (2))) aNil)))) (aCons (eFn 3 m_unit_power (aCons (eC (.int (9))) (aCons (eTup (aCons (eUn iNeg (eC (.int (2)))) (aCons (eC (.int (0))) aNil))) (aCons (eUn iNeg (eC (.int (7)))) aNil)))) aNil)))))) (.nm 4))
  (sRet (eFn 2 (m_law_like 8) (aCons (eVar 4) (aCons (eLst (aCons (eTup (aCons (eUn iNeg (eC (.int (1)))) (aCons (eUn iNeg (eC (.int (1)))) aNil))) (aCons (eTup (aCons (eUn iNeg (eC (.int (2)))) (aCons (eC (.int (0))) aNil))) (aCons (eTup (aCons (eUn iNeg (eC (.int (2)))) (aCons (eC (.int (0))) aNil))) (aCons (eTup (aCons (eC (.int (2))) (aCons (eC (.int (50000))) aNil))) (aCons (eTup (aCons (eUn iNeg (eC (.int (2)))) (aCons (eC (.int (15))) aNil))) (aCons (eTup (aCons (eC (.int (0))) (aCons (eC (.int (2))) aNil))) (aCons (eTup (aCons (eC (.int (2))) (aCons (eBin gMul (eC (.int (2))) (eVar 1)) aNil))) (aCons (eTup (aCons (eUn iNeg (eC (.int (2)))) (aCons (eC (.int (0))) aNil))) aNil))))))))) aNil)))))))))))))
def m_law_digits_right : List D → M D := fnM 0 6 (b_law_digits_right)
abbrev s_law_errors_right : Stmt := top 63
def l1_law_errors_right : SM := (sSeq (sAsg (eBin gAdd (eVar 0) (eLc (iOf (eTup (aCons (eC (.fn 25)) (aCons (eC (.fn 27)) (aCons (eC (.fn 28)) (aCons (eC (.fn 30)) aNil)))))) (.nm 3) cTrue (eErr werr nerr (eFnL ftab 3 (aCons (eC (.int (5))) (aCons (eVar 1) aNil)))) [3])) (.nm 0))
  (sSeq (sAsg (eBin gAdd (eVar 0) (eLc (iOf (eTup (aCons (eC (.fn 26)) (aCons (eC (.fn 29)) aNil)))) (.nm 3) cTrue (eErr werr nerr (eFnL ftab 3 (aCons (eC (.int (5))) (aCons (eVar 1) (aCons (eC .non) aNil))))) [3])) (.nm 0))
  (sSeq (sExpr (eM1 gAppend (eVar 0) (aCons (eErr werr nerr (eFn 3 m_unit_product (aCons (eC (.int (5))) (aCons (eTup (aCons (eC (.int (3))) (aCons (eC (.int (1))) aNil))) (aCons (eVar 1) aNil))))) aNil)))
  (sExpr (eM1 gAppend (eVar 0) (aCons (eErr werr nerr (eFn 2 m_is_above_one (aCons (eC (.int (9))) (aCons (eVar 1) aNil)))) aNil))))))
def l2_law_errors_right : SM := (sSeq (sAsg (eBin gAdd (eVar 0) (eLc (iOf (eTup (aCons (eC (.fn 24)) (aCons (eC (.fn 25)) (aCons (eC (.fn 27)) (aCons (eC (.fn 28)) (aCons (eC (.fn 30)) aNil))))))) (.nm 3) cTrue (eErr werr nerr (eFnL ftab 3 (aCons (eVar 1) (aCons (eC .non) aNil)))) [3])) (.nm 0))
  (sSeq (sAsg (eBin gAdd (eVar 0) (eLc (iOf (eTup (aCons (eC (.fn 26)) (aCons (eC (.fn 29)) aNil)))) (.nm 3) cTrue (eErr werr nerr (eFnL ftab 3 (aCons (eVar 1) (aCons (eC .non) (aCons (eC .non) aNil))))) [3])) (.nm 0))
  (sExpr (eM1 gAppend (eVar 0) (aCons (eErr werr nerr (eFn 1 m_is_free (aCons (eVar 1) aNil))) aNil)))))
def b_law_errors_right : SM := (sSeq (sAsg (eLst aNil) (.nm 0))
  (sSeq (sFor (iOf (eTup (aCons (eC .non) (aCons (eC (.bl true)) (aCons (eC (.int (2))) (aCons (eC (.int (3))) (aCons (eUn iNeg (eC (.int (1)))) (aCons (eUn iNeg (eC (.int (2)))) (aCons (eBin gAdd (eBin iPow (eC (.int (10))) (eC (.int (7)))) (eC (.int (1)))) (aCons (eBin iSub (eUn iNeg (eBin iPow (eC (.int (10))) (eC (.int (7))))) (eC (.int (3)))) (aCons (eC (.str ⟨#[53]⟩)) (aCons (eTup (aCons (eC (.int (5))) aNil)) aNil)))))))))))) (.nm 1) l2_law_errors_right)
  (sSeq (sIf (fun env => mBl (eBin gNe (eVar 0) (eBin gMul (eLst (aCons (eC (.str ⟨#[110, 117, 109, 98, 101, 114]⟩)) aNil)) (eC (.int (80)))) env)) (sRet (eC (.bl false))) sNil)
  (sSeq (sAsg (eLst aNil) (.nm 0))
  (sSeq (sFor (iOf (eTup (aCons (eC .non) (aCons (eTup aNil) (aCons (eTup (aCons (eC (.int (3))) aNil)) (aCons (eLst (aCons (eC (.int (3))) (aCons (eC (.int (1))) aNil))) (aCons (eTup (aCons (eC (.int (3))) (aCons (eC (.bl true)) aNil))) (aCons (eTup (aCons (eC (.int (3))) (aCons (eC (.int (2))) aNil))) (aCons (eTup (aCons (eC (.int (2))) (aCons (eC (.int (1))) aNil))) (aCons (eTup (aCons (eC (.int (4))) (aCons (eC (.int (0))) aNil))) (aCons (eTup (aCons (eC (.int (0))) (aCons (eC (.int (0))) aNil))) (aCons (eC (.int (3))) aNil)))))))))))) (.nm 1) l1_law_errors_right)
  (sSeq (sIf (fun env => mBl (eBin gNe (eVar 0) (eBin gMul (eLst (aCons (eC (.str ⟨#[117, 110, 105, 116]⟩)) aNil)) (eC (.int (80)))) env)) (sRet (eC (.bl false))) sNil)
  (sSeq (sAsg (eLc (iOf (eTup (aCons (eC .non) (aCons (eC (.bl true)) (aCons (eC (.int (10001))) (aCons (eUn iNeg (eC (.int (10001)))) (aCons (eC (.str ⟨#[49]⟩)) (aCons (eTup (aCons (eC (.int (1))) aNil)) aNil)))))))) (.nm 1) cTrue (eErr werr nerr (eFn 3 m_unit_power (aCons (eC (.int (5))) (aCons (eTup (aCons (eC (.int (3))) (aCons (eC (.int (1))) aNil))) (aCons (eVar 1) aNil))))) [1]) (.nm 0))
  (sSeq (sAsg (eBin gAdd (eVar 0) (eLc (iOf (eTup (aCons (eC (.int (0))) (aCons (eC (.int (1))) (aCons (eC (.int (9))) (aCons (eUn iNeg (eC (.int (3)))) (aCons (eUn iNeg (eC (.int (8)))) aNil))))))) (.nm 2) cTrue (eErr werr nerr (eFn 2 m_is_above_one (aCons (eVar 2) (aCons (eTup (aCons (eC (.int (2))) (aCons (eC (.int (0))) aNil))) aNil)))) [2])) (.nm 0))
  (sRet (eBin gEq (eVar 0) (eBin gAdd (eBin gMul (eLst (aCons (eC (.str ⟨#[110, 117, 109, 98, 101, 114]⟩)) aNil)) (eC (.int (6)))) (eBin gMul (eLst (aCons (eC (.str ⟨#[110, 111, 119]⟩)) aNil)) (eC (.int (5)))))))))))))))
def m_law_errors_right : List D → M D := fnM 0 4 (b_law_errors_right)
abbrev s_law : Stmt := top 65
def l1_law (sn : List Int) : SM := (sIf (bNot (fun env => mTruth ((eFn 2 m_law_right (aCons (eVar 1) (aCons (eFn 1 m_law_number (aCons (eVar 1) aNil)) aNil))) env))) (sRet (eC (.bl false))) sNil)
def b_law (sn : List Int) : SM := (sSeq (sAsg (eFn 1 (m_law_cup sn) (aCons (eVar 0) aNil)) (.nm 1))
  (sSeq (sFor (iRange (aCons (eC (.int (24))) aNil)) (.nm 2) (l1_law sn))
  (sSeq (sAsg (eLst (aCons (eBin iPow (eC (.int (10))) (eC (.int (7)))) (aCons (eUn iNeg (eBin iPow (eC (.int (10))) (eC (.int (7))))) (aCons (eC (.int (9999997))) (aCons (eUn iNeg (eC (.int (9999999)))) (aCons (eC (.int (0))) (aCons (eC (.int (1))) (aCons (eC (.int (4))) (aCons (eUn iNeg (eC (.int (3)))) (aCons (eBin gAdd (eBin iPow (eC (.int (10))) (eC (.int (7)))) (eC (.int (1)))) (aCons (eC (.int (2))) (aCons (eC (.int (3))) (aCons (eUn iNeg (eC (.int (1)))) (aCons (eUn iNeg (eC (.int (2)))) (aCons (eUn iNeg (eC (.int (9999998)))) (aCons (eC .non) (aCons (eC (.bl true)) (aCons (eC (.str ⟨#[52]⟩)) (aCons (eTup (aCons (eC (.int (4))) aNil)) (aCons (eBin iPow (eC (.int (10))) (eC (.int (40)))) aNil)))))))))))))))))))) (.nm 3))
  (sSeq (sIf (fun env => mBl (eBin gNe (eLc (iOf (eVar 3)) (.nm 6) cTrue (eFn 1 m_is_discriminant (aCons (eVar 6) aNil)) [6]) (eBin gAdd (eBin gMul (eLst (aCons (eC (.bl true)) aNil)) (eC (.int (8)))) (eBin gMul (eLst (aCons (eC (.bl false)) aNil)) (eC (.int (11))))) env)) (sRet (eC (.bl false))) sNil)
  (sSeq (sAsg (eLst (aCons (eFn 2 m_unit_norm (aCons (eC (.int (5))) (aCons (eTup (aCons (eC (.int (1))) (aCons (eC (.int (1))) aNil))) aNil))) (aCons (eFn 3 m_unit_product (aCons (eC (.int (5))) (aCons (eTup (aCons (eC (.int (1))) (aCons (eC (.int (1))) aNil))) (aCons (eTup (aCons (eC (.int (1))) (aCons (eC (.int (1))) aNil))) aNil)))) (aCons (eFn 2 m_unit_back (aCons (eC (.int (5))) (aCons (eTup (aCons (eC (.int (1))) (aCons (eC (.int (1))) aNil))) aNil))) (aCons (eFn 3 m_unit_power (aCons (eC (.int (8))) (aCons (eTup (aCons (eC (.int (2))) (aCons (eC (.int (1))) aNil))) (aCons (eC (.int (3))) aNil)))) aNil))))) (.nm 4))
  (sSeq (sAsg (eBin gAdd (eVar 4) (eLst (aCons (eFn 3 m_unit_power (aCons (eC (.int (5))) (aCons (eTup (aCons (eC (.int (3))) (aCons (eC (.int (1))) aNil))) (aCons (eUn iNeg (eC (.int (2)))) aNil)))) (aCons (eFn 2 m_is_above_one (aCons (eC (.int (5))) (aCons (eTup (aCons (eUn iNeg (eC (.int (1)))) (aCons (eC (.int (1))) aNil))) aNil))) (aCons (eFn 2 m_is_above_one (aCons (eC (.int (5))) (aCons (eTup (aCons (eC (.int (2))) (aCons (eC (.int (0))) aNil))) aNil))) (aCons (eFn 2 m_unit_opposite (aCons (eC (.int (5))) (aCons (eTup (aCons (eC (.int (3))) (aCons (eC (.int (1))) aNil))) aNil))) aNil)))))) (.nm 4))
  (sSeq (sAsg (eBin gAdd (eVar 4) (eLst (aCons (eFn 2 m_is_unit (aCons (eC (.int (5))) (aCons (eTup (aCons (eC (.int (2))) (aCons (eC (.int (1))) aNil))) aNil))) (aCons (eFn 2 m_is_unit (aCons (eC (.int (61))) (aCons (eTup (aCons (eC (.int (39))) (aCons (eC (.int (5))) aNil))) aNil))) (aCons (eFn 2 m_is_unit (aCons (eC (.int (0))) (aCons (eTup (aCons (eC (.int (2))) (aCons (eFn 1 m_law_ten (aCons (eC (.int (3000))) aNil)) aNil))) aNil))) (aCons (eFn 2 m_is_unit (aCons (eUn iNeg (eC (.int (4)))) (aCons (eTup (aCons (eC (.int (0))) (aCons (eUn iNeg (eC (.int (1)))) aNil))) aNil))) (aCons (eFn 1 m_is_free (aCons (eC (.int (9))) aNil)) (aCons (eFn 1 m_is_free (aCons (eC (.int (0))) aNil)) aNil)))))))) (.nm 4))
  (sSeq (sAsg (eLst (aCons (eUn iNeg (eC (.int (1)))) (aCons (eTup (aCons (eC (.int (3))) (aCons (eC (.int (1))) aNil))) (aCons (eTup (aCons (eUn iNeg (eC (.int (1)))) (aCons (eC (.int (1))) aNil))) (aCons (eTup (aCons (eC (.int (14))) (aCons (eC (.int (5))) aNil))) (aCons (eTup (aCons (eC (.int (7))) (aCons (eUn iNeg (eC (.int (3)))) aNil))) (aCons (eC (.bl false)) (aCons (eC (.bl false)) (aCons (eTup (aCons (eUn iNeg (eC (.int (3)))) (aCons (eUn iNeg (eC (.int (1)))) aNil))) (aCons (eC (.bl false)) (aCons (eC (.bl true)) (aCons (eC (.bl true)) (aCons (eC (.bl true)) (aCons (eC (.bl false)) (aCons (eC (.bl false)) aNil))))))))))))))) (.nm 5))
  (sRet (eAnd (eFn 2 (m_law_like 8) (aCons (eVar 4) (aCons (eVar 5) aNil))) (eAnd (eFn 0 m_law_digits_right aNil) (eFn 0 m_law_errors_right aNil))))))))))))
def m_law (sn : List Int) : List D → M D := fnM 1 7 (b_law sn)
abbrev s_lim__ : Stmt := inClass (top 5) 0
end K21
/-! K21Q: each def keeps its mirror (printed by gen.py). -/
namespace K21
open PySem _root_.L2 Mir PyProof.Rows

/-- where the text's defs stand -/
structure Ad where
  a_is_whole : Addr
  d_is_whole : FuncData
  a_need_whole : Addr
  d_need_whole : FuncData
  a_is_tuple_of : Addr
  d_is_tuple_of : FuncData
  a_is_integer : Addr
  d_is_integer : FuncData
  a_root : Addr
  d_root : FuncData
  a_is_square : Addr
  d_is_square : FuncData
  a_is_number : Addr
  d_is_number : FuncData
  a_need_number : Addr
  d_need_number : FuncData
  a_is_free_in : Addr
  d_is_free_in : FuncData
  a_need_free : Addr
  d_need_free : FuncData
  a_size_of : Addr
  d_size_of : FuncData
  a_fits : Addr
  d_fits : FuncData
  a_need_unit : Addr
  d_need_unit : FuncData
  a_norm_of : Addr
  d_norm_of : FuncData
  a_times : Addr
  d_times : FuncData
  a_back : Addr
  d_back : FuncData
  a_opposite : Addr
  d_opposite : FuncData
  a_bits_of : Addr
  d_bits_of : FuncData
  a_raised : Addr
  d_raised : FuncData
  a_grown : Addr
  d_grown : FuncData
  a_great : Addr
  d_great : FuncData
  a_is_above : Addr
  d_is_above : FuncData
  a_is_discriminant : Addr
  d_is_discriminant : FuncData
  a_is_free : Addr
  d_is_free : FuncData
  a_is_unit : Addr
  d_is_unit : FuncData
  a_unit_norm : Addr
  d_unit_norm : FuncData
  a_unit_product : Addr
  d_unit_product : FuncData
  a_unit_back : Addr
  d_unit_back : FuncData
  a_unit_opposite : Addr
  d_unit_opposite : FuncData
  a_unit_power : Addr
  d_unit_power : FuncData
  a_is_above_one : Addr
  d_is_above_one : FuncData
  a_law_cup : Addr
  d_law_cup : FuncData
  a_law_roll : Addr
  d_law_roll : FuncData
  a_law_some : Addr
  d_law_some : FuncData
  a_law_sort : Addr
  d_law_sort : FuncData
  a_law_like : Addr
  d_law_like : FuncData
  a_law_root : Addr
  d_law_root : FuncData
  a_law_is_unit : Addr
  d_law_is_unit : FuncData
  a_law_norm : Addr
  d_law_norm : FuncData
  a_law_times : Addr
  d_law_times : FuncData
  a_law_power : Addr
  d_law_power : FuncData
  a_law_first : Addr
  d_law_first : FuncData
  a_law_error : Addr
  d_law_error : FuncData
  a_law_number : Addr
  d_law_number : FuncData
  a_law_unit : Addr
  d_law_unit : FuncData
  a_law_is_free : Addr
  d_law_is_free : FuncData
  a_law_near : Addr
  d_law_near : FuncData
  a_law_right : Addr
  d_law_right : FuncData
  a_law_ten : Addr
  d_law_ten : FuncData
  a_law_digits_right : Addr
  d_law_digits_right : FuncData
  a_law_errors_right : Addr
  d_law_errors_right : FuncData
  a_law : Addr
  d_law : FuncData
  c_law_right : Addr
  t_law_right : Addr
  c_law_digits_right : Addr
  t_law_digits_right : Addr
  c_law_errors_right : Addr
  t_law_errors_right : Addr
  v_ONE : Value
/-- what the top has written -/
structure Top (P : Program) (G : Gx) (mg : Str → Option Value) (a : Ad) : Prop where
  f_is_whole : Fun G.K "is_whole" "is_whole" s_is_whole a.a_is_whole a.d_is_whole
  g_is_whole : mg "is_whole" = some (.ref a.a_is_whole)
  b_is_whole : Binds G.K a.d_is_whole (["value", "low", "high"] : List Str) []
  f_need_whole : Fun G.K "need_whole" "need_whole" s_need_whole a.a_need_whole a.d_need_whole
  g_need_whole : mg "need_whole" = some (.ref a.a_need_whole)
  b_need_whole : Binds G.K a.d_need_whole (["value", "low", "high"] : List Str) []
  f_is_tuple_of : Fun G.K "is_tuple_of" "is_tuple_of" s_is_tuple_of a.a_is_tuple_of a.d_is_tuple_of
  g_is_tuple_of : mg "is_tuple_of" = some (.ref a.a_is_tuple_of)
  b_is_tuple_of : Binds G.K a.d_is_tuple_of (["value", "low", "high"] : List Str) []
  f_is_integer : Fun G.K "is_integer" "is_integer" s_is_integer a.a_is_integer a.d_is_integer
  g_is_integer : mg "is_integer" = some (.ref a.a_is_integer)
  b_is_integer : Binds G.K a.d_is_integer (["value"] : List Str) []
  f_root : Fun G.K "root" "root" s_root a.a_root a.d_root
  g_root : mg "root" = some (.ref a.a_root)
  b_root : Binds G.K a.d_root (["number"] : List Str) []
  f_is_square : Fun G.K "is_square" "is_square" s_is_square a.a_is_square a.d_is_square
  g_is_square : mg "is_square" = some (.ref a.a_is_square)
  b_is_square : Binds G.K a.d_is_square (["number"] : List Str) []
  f_is_number : Fun G.K "is_number" "is_number" s_is_number a.a_is_number a.d_is_number
  g_is_number : mg "is_number" = some (.ref a.a_is_number)
  b_is_number : Binds G.K a.d_is_number (["value"] : List Str) []
  f_need_number : Fun G.K "need_number" "need_number" s_need_number a.a_need_number a.d_need_number
  g_need_number : mg "need_number" = some (.ref a.a_need_number)
  b_need_number : Binds G.K a.d_need_number (["number"] : List Str) []
  f_is_free_in : Fun G.K "is_free_in" "is_free_in" s_is_free_in a.a_is_free_in a.d_is_free_in
  g_is_free_in : mg "is_free_in" = some (.ref a.a_is_free_in)
  b_is_free_in : Binds G.K a.d_is_free_in (["number"] : List Str) []
  f_need_free : Fun G.K "need_free" "need_free" s_need_free a.a_need_free a.d_need_free
  g_need_free : mg "need_free" = some (.ref a.a_need_free)
  b_need_free : Binds G.K a.d_need_free (["number"] : List Str) []
  f_size_of : Fun G.K "size_of" "size_of" s_size_of a.a_size_of a.d_size_of
  g_size_of : mg "size_of" = some (.ref a.a_size_of)
  b_size_of : Binds G.K a.d_size_of (["number", "pair"] : List Str) []
  f_fits : Fun G.K "fits" "fits" s_fits a.a_fits a.d_fits
  g_fits : mg "fits" = some (.ref a.a_fits)
  b_fits : Binds G.K a.d_fits (["number", "value"] : List Str) []
  f_need_unit : Fun G.K "need_unit" "need_unit" s_need_unit a.a_need_unit a.d_need_unit
  g_need_unit : mg "need_unit" = some (.ref a.a_need_unit)
  b_need_unit : Binds G.K a.d_need_unit (["number", "unit"] : List Str) []
  f_norm_of : Fun G.K "norm_of" "norm_of" s_norm_of a.a_norm_of a.d_norm_of
  g_norm_of : mg "norm_of" = some (.ref a.a_norm_of)
  b_norm_of : Binds G.K a.d_norm_of (["number", "unit"] : List Str) []
  f_times : Fun G.K "times" "times" s_times a.a_times a.d_times
  g_times : mg "times" = some (.ref a.a_times)
  b_times : Binds G.K a.d_times (["number", "one", "other"] : List Str) []
  f_back : Fun G.K "back" "back" s_back a.a_back a.d_back
  g_back : mg "back" = some (.ref a.a_back)
  b_back : Binds G.K a.d_back (["number", "unit"] : List Str) []
  f_opposite : Fun G.K "opposite" "opposite" s_opposite a.a_opposite a.d_opposite
  g_opposite : mg "opposite" = some (.ref a.a_opposite)
  b_opposite : Binds G.K a.d_opposite (["unit"] : List Str) []
  f_bits_of : Fun G.K "bits_of" "bits_of" s_bits_of a.a_bits_of a.d_bits_of
  g_bits_of : mg "bits_of" = some (.ref a.a_bits_of)
  b_bits_of : Binds G.K a.d_bits_of (["often"] : List Str) []
  f_raised : Fun G.K "raised" "raised" s_raised a.a_raised a.d_raised
  g_raised : mg "raised" = some (.ref a.a_raised)
  b_raised : Binds G.K a.d_raised (["number", "unit", "often", "most"] : List Str) []
  f_grown : Fun G.K "grown" "grown" s_grown a.a_grown a.d_grown
  g_grown : mg "grown" = some (.ref a.a_grown)
  b_grown : Binds G.K a.d_grown (["value", "often"] : List Str) []
  f_great : Fun G.K "great" "great" s_great a.a_great a.d_great
  g_great : mg "great" = some (.ref a.a_great)
  b_great : Binds G.K a.d_great ([] : List Str) []
  f_is_above : Fun G.K "is_above" "is_above" s_is_above a.a_is_above a.d_is_above
  g_is_above : mg "is_above" = some (.ref a.a_is_above)
  b_is_above : Binds G.K a.d_is_above (["unit"] : List Str) []
  f_is_discriminant : Fun G.K "is_discriminant" "is_discriminant" s_is_discriminant a.a_is_discriminant a.d_is_discriminant
  g_is_discriminant : mg "is_discriminant" = some (.ref a.a_is_discriminant)
  b_is_discriminant : Binds G.K a.d_is_discriminant (["value"] : List Str) []
  f_is_free : Fun G.K "is_free" "is_free" s_is_free a.a_is_free a.d_is_free
  g_is_free : mg "is_free" = some (.ref a.a_is_free)
  b_is_free : Binds G.K a.d_is_free (["number"] : List Str) []
  f_is_unit : Fun G.K "is_unit" "is_unit" s_is_unit a.a_is_unit a.d_is_unit
  g_is_unit : mg "is_unit" = some (.ref a.a_is_unit)
  b_is_unit : Binds G.K a.d_is_unit (["number", "value"] : List Str) []
  f_unit_norm : Fun G.K "unit_norm" "unit_norm" s_unit_norm a.a_unit_norm a.d_unit_norm
  g_unit_norm : mg "unit_norm" = some (.ref a.a_unit_norm)
  b_unit_norm : Binds G.K a.d_unit_norm (["number", "unit"] : List Str) []
  f_unit_product : Fun G.K "unit_product" "unit_product" s_unit_product a.a_unit_product a.d_unit_product
  g_unit_product : mg "unit_product" = some (.ref a.a_unit_product)
  b_unit_product : Binds G.K a.d_unit_product (["number", "one", "other"] : List Str) []
  f_unit_back : Fun G.K "unit_back" "unit_back" s_unit_back a.a_unit_back a.d_unit_back
  g_unit_back : mg "unit_back" = some (.ref a.a_unit_back)
  b_unit_back : Binds G.K a.d_unit_back (["number", "unit"] : List Str) []
  f_unit_opposite : Fun G.K "unit_opposite" "unit_opposite" s_unit_opposite a.a_unit_opposite a.d_unit_opposite
  g_unit_opposite : mg "unit_opposite" = some (.ref a.a_unit_opposite)
  b_unit_opposite : Binds G.K a.d_unit_opposite (["number", "unit"] : List Str) []
  f_unit_power : Fun G.K "unit_power" "unit_power" s_unit_power a.a_unit_power a.d_unit_power
  g_unit_power : mg "unit_power" = some (.ref a.a_unit_power)
  b_unit_power : Binds G.K a.d_unit_power (["number", "unit", "often"] : List Str) []
  f_is_above_one : Fun G.K "is_above_one" "is_above_one" s_is_above_one a.a_is_above_one a.d_is_above_one
  g_is_above_one : mg "is_above_one" = some (.ref a.a_is_above_one)
  b_is_above_one : Binds G.K a.d_is_above_one (["number", "unit"] : List Str) []
  f_law_cup : Fun G.K "_law_cup" "_law_cup" s_law_cup a.a_law_cup a.d_law_cup
  g_law_cup : mg "_law_cup" = some (.ref a.a_law_cup)
  b_law_cup : Binds G.K a.d_law_cup (["script"] : List Str) []
  f_law_roll : Fun G.K "_law_roll" "_law_roll" s_law_roll a.a_law_roll a.d_law_roll
  g_law_roll : mg "_law_roll" = some (.ref a.a_law_roll)
  b_law_roll : Binds G.K a.d_law_roll (["cup", "many"] : List Str) []
  f_law_some : Fun G.K "_law_some" "_law_some" s_law_some a.a_law_some a.d_law_some
  g_law_some : mg "_law_some" = some (.ref a.a_law_some)
  b_law_some : Binds G.K a.d_law_some (["cup", "things"] : List Str) []
  f_law_sort : Fun G.K "_law_sort" "_law_sort" s_law_sort a.a_law_sort a.d_law_sort
  g_law_sort : mg "_law_sort" = some (.ref a.a_law_sort)
  b_law_sort : Binds G.K a.d_law_sort (["value"] : List Str) []
  f_law_like : Fun G.K "_law_like" "_law_like" s_law_like a.a_law_like a.d_law_like
  g_law_like : mg "_law_like" = some (.ref a.a_law_like)
  b_law_like : Binds G.K a.d_law_like (["one", "other"] : List Str) []
  f_law_root : Fun G.K "_law_root" "_law_root" s_law_root a.a_law_root a.d_law_root
  g_law_root : mg "_law_root" = some (.ref a.a_law_root)
  b_law_root : Binds G.K a.d_law_root (["value"] : List Str) []
  f_law_is_unit : Fun G.K "_law_is_unit" "_law_is_unit" s_law_is_unit a.a_law_is_unit a.d_law_is_unit
  g_law_is_unit : mg "_law_is_unit" = some (.ref a.a_law_is_unit)
  b_law_is_unit : Binds G.K a.d_law_is_unit (["number", "value"] : List Str) []
  f_law_norm : Fun G.K "_law_norm" "_law_norm" s_law_norm a.a_law_norm a.d_law_norm
  g_law_norm : mg "_law_norm" = some (.ref a.a_law_norm)
  b_law_norm : Binds G.K a.d_law_norm (["number", "unit"] : List Str) []
  f_law_times : Fun G.K "_law_times" "_law_times" s_law_times a.a_law_times a.d_law_times
  g_law_times : mg "_law_times" = some (.ref a.a_law_times)
  b_law_times : Binds G.K a.d_law_times (["number", "one", "other"] : List Str) []
  f_law_power : Fun G.K "_law_power" "_law_power" s_law_power a.a_law_power a.d_law_power
  g_law_power : mg "_law_power" = some (.ref a.a_law_power)
  b_law_power : Binds G.K a.d_law_power (["number", "unit", "often"] : List Str) []
  f_law_first : Fun G.K "_law_first" "_law_first" s_law_first a.a_law_first a.d_law_first
  g_law_first : mg "_law_first" = some (.ref a.a_law_first)
  b_law_first : Binds G.K a.d_law_first (["number"] : List Str) []
  f_law_error : Fun G.K "_law_error" "_law_error" s_law_error a.a_law_error a.d_law_error
  g_law_error : mg "_law_error" = some (.ref a.a_law_error)
  b_law_error : Binds G.K a.d_law_error (["call"] : List Str) []
  f_law_number : Fun G.K "_law_number" "_law_number" s_law_number a.a_law_number a.d_law_number
  g_law_number : mg "_law_number" = some (.ref a.a_law_number)
  b_law_number : Binds G.K a.d_law_number (["cup"] : List Str) []
  f_law_unit : Fun G.K "_law_unit" "_law_unit" s_law_unit a.a_law_unit a.d_law_unit
  g_law_unit : mg "_law_unit" = some (.ref a.a_law_unit)
  b_law_unit : Binds G.K a.d_law_unit (["cup", "number"] : List Str) []
  f_law_is_free : Fun G.K "_law_is_free" "_law_is_free" s_law_is_free a.a_law_is_free a.d_law_is_free
  g_law_is_free : mg "_law_is_free" = some (.ref a.a_law_is_free)
  b_law_is_free : Binds G.K a.d_law_is_free (["number"] : List Str) []
  f_law_near : Fun G.K "_law_near" "_law_near" s_law_near a.a_law_near a.d_law_near
  g_law_near : mg "_law_near" = some (.ref a.a_law_near)
  b_law_near : Binds G.K a.d_law_near (["cup", "unit"] : List Str) []
  f_law_right : FunC G.K "_law_right" "_law_right" s_law_right a.a_law_right a.c_law_right a.d_law_right
  g_law_right : mg "_law_right" = some (.ref a.a_law_right)
  b_law_right : Binds G.K a.d_law_right (["cup", "number"] : List Str) []
  f_law_ten : Fun G.K "_law_ten" "_law_ten" s_law_ten a.a_law_ten a.d_law_ten
  g_law_ten : mg "_law_ten" = some (.ref a.a_law_ten)
  b_law_ten : Binds G.K a.d_law_ten (["many"] : List Str) []
  f_law_digits_right : FunC G.K "_law_digits_right" "_law_digits_right" s_law_digits_right a.a_law_digits_right a.c_law_digits_right a.d_law_digits_right
  g_law_digits_right : mg "_law_digits_right" = some (.ref a.a_law_digits_right)
  b_law_digits_right : Binds G.K a.d_law_digits_right ([] : List Str) []
  f_law_errors_right : FunC G.K "_law_errors_right" "_law_errors_right" s_law_errors_right a.a_law_errors_right a.c_law_errors_right a.d_law_errors_right
  g_law_errors_right : mg "_law_errors_right" = some (.ref a.a_law_errors_right)
  b_law_errors_right : Binds G.K a.d_law_errors_right ([] : List Str) []
  f_law : Fun G.K "law" "law" s_law a.a_law a.d_law
  g_law : mg "law" = some (.ref a.a_law)
  b_law : Binds G.K a.d_law (["script"] : List Str) []
  fa_is_unit : a.a_is_unit = G.fa 24
  fa_unit_norm : a.a_unit_norm = G.fa 25
  fa_unit_product : a.a_unit_product = G.fa 26
  fa_unit_back : a.a_unit_back = G.fa 27
  fa_unit_opposite : a.a_unit_opposite = G.fa 28
  fa_unit_power : a.a_unit_power = G.fa 29
  fa_is_above_one : a.a_is_above_one = G.fa 30
  n_abs : mg "abs" = none
  n_all : mg "all" = none
  n_bool : mg "bool" = none
  n_int : mg "int" = none
  n_isinstance : mg "isinstance" = none
  n_len : mg "len" = none
  n_list : mg "list" = none
  n_range : mg "range" = none
  n_str : mg "str" = none
  n_tuple : mg "tuple" = none
  n_zip : mg "zip" = none
  k_MOST : ∃ t, mg "MOST" = some (.int (10000000) t)
  k_DIGITS : ∃ t, mg "DIGITS" = some (.int (2000) t)
  k_OFTEN : ∃ t, mg "OFTEN" = some (.int (10000) t)
  t_ONE : mg "ONE" = some a.v_ONE
  kt_ONE : ktB G.K 6 a.v_ONE (.tup [(.int (2)), (.int (0))]) = true
  lcN : G.lc = 4
  lcE : G.ct 4 = G.ct G.lc
  oex : OexC G.K (G.ct 4)
  lim : LimOk G.K P.main.file (G.ct 4)
  nol : PySem.W.findIn G.K (.ref (G.ct 4)) "limit" = some none
  n_super : mg "super" = none
  htop : (P.main.scope.names.lookup ("super" : Str)).isSome = false
  cg_WholeError : mg "WholeError" = some (.ref (G.ct 0))
  x_WholeError : PySem.W.excIn G.K (G.ct 0) [.type "ValueError", .type "Exception", .type "BaseException", .type "object"] "ValueError.__new__" = true
  ck_WholeError : PySem.W.keepIn G.K (.ref (G.ct 0)) = true
  cb_WholeError : PySem.W.subIn G.K (.ref (G.ct 0)) (.type "BaseException") = some true
  ct_WholeError : PySem.W.typeIn G.K (.ref (G.ct 0)) = some (.type "type")
  ci_WholeError : PySem.W.isClsIn G.K (G.ct 0) = true
  ce_WholeError : ExcC G.K (G.ct 0)
  cg_InvalidNumber : mg "InvalidNumber" = some (.ref (G.ct 1))
  x_InvalidNumber : PySem.W.excIn G.K (G.ct 1) [.type "ValueError", .type "Exception", .type "BaseException", .type "object"] "ValueError.__new__" = true
  ck_InvalidNumber : PySem.W.keepIn G.K (.ref (G.ct 1)) = true
  cb_InvalidNumber : PySem.W.subIn G.K (.ref (G.ct 1)) (.type "BaseException") = some true
  ct_InvalidNumber : PySem.W.typeIn G.K (.ref (G.ct 1)) = some (.type "type")
  ci_InvalidNumber : PySem.W.isClsIn G.K (G.ct 1) = true
  ce_InvalidNumber : ExcC G.K (G.ct 1)
  cg_InvalidUnit : mg "InvalidUnit" = some (.ref (G.ct 2))
  x_InvalidUnit : PySem.W.excIn G.K (G.ct 2) [.type "ValueError", .type "Exception", .type "BaseException", .type "object"] "ValueError.__new__" = true
  ck_InvalidUnit : PySem.W.keepIn G.K (.ref (G.ct 2)) = true
  cb_InvalidUnit : PySem.W.subIn G.K (.ref (G.ct 2)) (.type "BaseException") = some true
  ct_InvalidUnit : PySem.W.typeIn G.K (.ref (G.ct 2)) = some (.type "type")
  ci_InvalidUnit : PySem.W.isClsIn G.K (G.ct 2) = true
  ce_InvalidUnit : ExcC G.K (G.ct 2)
  cg_NotNow : mg "NotNow" = some (.ref (G.ct 3))
  x_NotNow : PySem.W.excIn G.K (G.ct 3) [.type "ValueError", .type "Exception", .type "BaseException", .type "object"] "ValueError.__new__" = true
  ck_NotNow : PySem.W.keepIn G.K (.ref (G.ct 3)) = true
  cb_NotNow : PySem.W.subIn G.K (.ref (G.ct 3)) (.type "BaseException") = some true
  ct_NotNow : PySem.W.typeIn G.K (.ref (G.ct 3)) = some (.type "type")
  ci_NotNow : PySem.W.isClsIn G.K (G.ct 3) = true
  ce_NotNow : ExcC G.K (G.ct 3)
  cg_TooMany : mg "TooMany" = some (.ref (G.ct 4))
  ck_TooMany : PySem.W.keepIn G.K (.ref (G.ct 4)) = true
  cb_TooMany : PySem.W.subIn G.K (.ref (G.ct 4)) (.type "BaseException") = some true
  ct_TooMany : PySem.W.typeIn G.K (.ref (G.ct 4)) = some (.type "type")
  ci_TooMany : PySem.W.isClsIn G.K (G.ct 4) = true
  ce_TooMany : ExcC G.K (G.ct 4)
  s_0_0 : PySem.W.subIn G.K (.ref (G.ct 0)) (.ref (G.ct 0)) = some (subCls 0 0)
  s_0_1 : PySem.W.subIn G.K (.ref (G.ct 0)) (.ref (G.ct 1)) = some (subCls 0 1)
  s_0_2 : PySem.W.subIn G.K (.ref (G.ct 0)) (.ref (G.ct 2)) = some (subCls 0 2)
  s_0_3 : PySem.W.subIn G.K (.ref (G.ct 0)) (.ref (G.ct 3)) = some (subCls 0 3)
  s_0_4 : PySem.W.subIn G.K (.ref (G.ct 0)) (.ref (G.ct 4)) = some (subCls 0 4)
  s_1_0 : PySem.W.subIn G.K (.ref (G.ct 1)) (.ref (G.ct 0)) = some (subCls 1 0)
  s_1_1 : PySem.W.subIn G.K (.ref (G.ct 1)) (.ref (G.ct 1)) = some (subCls 1 1)
  s_1_2 : PySem.W.subIn G.K (.ref (G.ct 1)) (.ref (G.ct 2)) = some (subCls 1 2)
  s_1_3 : PySem.W.subIn G.K (.ref (G.ct 1)) (.ref (G.ct 3)) = some (subCls 1 3)
  s_1_4 : PySem.W.subIn G.K (.ref (G.ct 1)) (.ref (G.ct 4)) = some (subCls 1 4)
  s_2_0 : PySem.W.subIn G.K (.ref (G.ct 2)) (.ref (G.ct 0)) = some (subCls 2 0)
  s_2_1 : PySem.W.subIn G.K (.ref (G.ct 2)) (.ref (G.ct 1)) = some (subCls 2 1)
  s_2_2 : PySem.W.subIn G.K (.ref (G.ct 2)) (.ref (G.ct 2)) = some (subCls 2 2)
  s_2_3 : PySem.W.subIn G.K (.ref (G.ct 2)) (.ref (G.ct 3)) = some (subCls 2 3)
  s_2_4 : PySem.W.subIn G.K (.ref (G.ct 2)) (.ref (G.ct 4)) = some (subCls 2 4)
  s_3_0 : PySem.W.subIn G.K (.ref (G.ct 3)) (.ref (G.ct 0)) = some (subCls 3 0)
  s_3_1 : PySem.W.subIn G.K (.ref (G.ct 3)) (.ref (G.ct 1)) = some (subCls 3 1)
  s_3_2 : PySem.W.subIn G.K (.ref (G.ct 3)) (.ref (G.ct 2)) = some (subCls 3 2)
  s_3_3 : PySem.W.subIn G.K (.ref (G.ct 3)) (.ref (G.ct 3)) = some (subCls 3 3)
  s_3_4 : PySem.W.subIn G.K (.ref (G.ct 3)) (.ref (G.ct 4)) = some (subCls 3 4)
  s_4_0 : PySem.W.subIn G.K (.ref (G.ct 4)) (.ref (G.ct 0)) = some (subCls 4 0)
  s_4_1 : PySem.W.subIn G.K (.ref (G.ct 4)) (.ref (G.ct 1)) = some (subCls 4 1)
  s_4_2 : PySem.W.subIn G.K (.ref (G.ct 4)) (.ref (G.ct 2)) = some (subCls 4 2)
  s_4_3 : PySem.W.subIn G.K (.ref (G.ct 4)) (.ref (G.ct 3)) = some (subCls 4 3)
  s_4_4 : PySem.W.subIn G.K (.ref (G.ct 4)) (.ref (G.ct 4)) = some (subCls 4 4)
  tabU : ∀ p ∈ G.T, ∀ q ∈ G.T, p.1 = q.1 → p.2 = q.2
section
variable {P : Program} {w : World} {mg : Str → Option Value} {base : Heap} {G : Gx} {a : Ad}
theorem sc_is_whole : FnScope (["value", "low", "high"] : List Str) (["value", "low", "high"] : List Str) (defScope s_is_whole) := ⟨rfl, rfl, rfl, by decide +kernel, rfl, by decide +kernel, by decide +kernel⟩
theorem sc_need_whole : FnScope (["value", "low", "high"] : List Str) (["value", "low", "high"] : List Str) (defScope s_need_whole) := ⟨rfl, rfl, rfl, by decide +kernel, rfl, by decide +kernel, by decide +kernel⟩
theorem sc_is_tuple_of : FnScope (["value", "low", "high"] : List Str) (["value", "low", "high"] : List Str) (defScope s_is_tuple_of) := ⟨rfl, rfl, rfl, by decide +kernel, rfl, by decide +kernel, by decide +kernel⟩
theorem sc_is_integer : FnScope (["value"] : List Str) (["value"] : List Str) (defScope s_is_integer) := ⟨rfl, rfl, rfl, by decide +kernel, rfl, by decide +kernel, by decide +kernel⟩
theorem sc_root : FnScope (["number", "found", "better"] : List Str) (["number"] : List Str) (defScope s_root) := ⟨rfl, rfl, rfl, by decide +kernel, rfl, by decide +kernel, by decide +kernel⟩
theorem sc_is_square : FnScope (["number"] : List Str) (["number"] : List Str) (defScope s_is_square) := ⟨rfl, rfl, rfl, by decide +kernel, rfl, by decide +kernel, by decide +kernel⟩
theorem sc_is_number : FnScope (["value"] : List Str) (["value"] : List Str) (defScope s_is_number) := ⟨rfl, rfl, rfl, by decide +kernel, rfl, by decide +kernel, by decide +kernel⟩
theorem sc_need_number : FnScope (["number"] : List Str) (["number"] : List Str) (defScope s_need_number) := ⟨rfl, rfl, rfl, by decide +kernel, rfl, by decide +kernel, by decide +kernel⟩
theorem sc_is_free_in : FnScope (["number"] : List Str) (["number"] : List Str) (defScope s_is_free_in) := ⟨rfl, rfl, rfl, by decide +kernel, rfl, by decide +kernel, by decide +kernel⟩
theorem sc_need_free : FnScope (["number"] : List Str) (["number"] : List Str) (defScope s_need_free) := ⟨rfl, rfl, rfl, by decide +kernel, rfl, by decide +kernel, by decide +kernel⟩
theorem sc_size_of : FnScope (["number", "pair"] : List Str) (["number", "pair"] : List Str) (defScope s_size_of) := ⟨rfl, rfl, rfl, by decide +kernel, rfl, by decide +kernel, by decide +kernel⟩
theorem sc_fits : FnScope (["number", "value", "own"] : List Str) (["number", "value"] : List Str) (defScope s_fits) := ⟨rfl, rfl, rfl, by decide +kernel, rfl, by decide +kernel, by decide +kernel⟩
theorem sc_need_unit : FnScope (["number", "unit"] : List Str) (["number", "unit"] : List Str) (defScope s_need_unit) := ⟨rfl, rfl, rfl, by decide +kernel, rfl, by decide +kernel, by decide +kernel⟩
theorem sc_norm_of : FnScope (["number", "unit"] : List Str) (["number", "unit"] : List Str) (defScope s_norm_of) := ⟨rfl, rfl, rfl, by decide +kernel, rfl, by decide +kernel, by decide +kernel⟩
theorem sc_times : FnScope (["number", "one", "other", "t", "u", "v", "w"] : List Str) (["number", "one", "other"] : List Str) (defScope s_times) := ⟨rfl, rfl, rfl, by decide +kernel, rfl, by decide +kernel, by decide +kernel⟩
theorem sc_back : FnScope (["number", "unit"] : List Str) (["number", "unit"] : List Str) (defScope s_back) := ⟨rfl, rfl, rfl, by decide +kernel, rfl, by decide +kernel, by decide +kernel⟩
theorem sc_opposite : FnScope (["unit"] : List Str) (["unit"] : List Str) (defScope s_opposite) := ⟨rfl, rfl, rfl, by decide +kernel, rfl, by decide +kernel, by decide +kernel⟩
theorem sc_bits_of : FnScope (["often", "found"] : List Str) (["often"] : List Str) (defScope s_bits_of) := ⟨rfl, rfl, rfl, by decide +kernel, rfl, by decide +kernel, by decide +kernel⟩
theorem sc_raised : FnScope (["number", "unit", "often", "most", "found", "bit"] : List Str) (["number", "unit", "often", "most"] : List Str) (defScope s_raised) := ⟨rfl, rfl, rfl, by decide +kernel, rfl, by decide +kernel, by decide +kernel⟩
theorem sc_grown : FnScope (["value", "often", "found", "bit"] : List Str) (["value", "often"] : List Str) (defScope s_grown) := ⟨rfl, rfl, rfl, by decide +kernel, rfl, by decide +kernel, by decide +kernel⟩
theorem sc_great : FnScope ([] : List Str) ([] : List Str) (defScope s_great) := ⟨rfl, rfl, rfl, by decide +kernel, rfl, by decide +kernel, by decide +kernel⟩
theorem sc_is_above : FnScope (["unit"] : List Str) (["unit"] : List Str) (defScope s_is_above) := ⟨rfl, rfl, rfl, by decide +kernel, rfl, by decide +kernel, by decide +kernel⟩
theorem sc_is_discriminant : FnScope (["value"] : List Str) (["value"] : List Str) (defScope s_is_discriminant) := ⟨rfl, rfl, rfl, by decide +kernel, rfl, by decide +kernel, by decide +kernel⟩
theorem sc_is_free : FnScope (["number"] : List Str) (["number"] : List Str) (defScope s_is_free) := ⟨rfl, rfl, rfl, by decide +kernel, rfl, by decide +kernel, by decide +kernel⟩
theorem sc_is_unit : FnScope (["number", "value"] : List Str) (["number", "value"] : List Str) (defScope s_is_unit) := ⟨rfl, rfl, rfl, by decide +kernel, rfl, by decide +kernel, by decide +kernel⟩
theorem sc_unit_norm : FnScope (["number", "unit"] : List Str) (["number", "unit"] : List Str) (defScope s_unit_norm) := ⟨rfl, rfl, rfl, by decide +kernel, rfl, by decide +kernel, by decide +kernel⟩
theorem sc_unit_product : FnScope (["number", "one", "other"] : List Str) (["number", "one", "other"] : List Str) (defScope s_unit_product) := ⟨rfl, rfl, rfl, by decide +kernel, rfl, by decide +kernel, by decide +kernel⟩
theorem sc_unit_back : FnScope (["number", "unit"] : List Str) (["number", "unit"] : List Str) (defScope s_unit_back) := ⟨rfl, rfl, rfl, by decide +kernel, rfl, by decide +kernel, by decide +kernel⟩
theorem sc_unit_opposite : FnScope (["number", "unit"] : List Str) (["number", "unit"] : List Str) (defScope s_unit_opposite) := ⟨rfl, rfl, rfl, by decide +kernel, rfl, by decide +kernel, by decide +kernel⟩
theorem sc_unit_power : FnScope (["number", "unit", "often", "found"] : List Str) (["number", "unit", "often"] : List Str) (defScope s_unit_power) := ⟨rfl, rfl, rfl, by decide +kernel, rfl, by decide +kernel, by decide +kernel⟩
theorem sc_is_above_one : FnScope (["number", "unit"] : List Str) (["number", "unit"] : List Str) (defScope s_is_above_one) := ⟨rfl, rfl, rfl, by decide +kernel, rfl, by decide +kernel, by decide +kernel⟩
theorem sc_law_cup : FnScope (["script", "cell"] : List Str) (["script"] : List Str) (defScope s_law_cup) := ⟨rfl, rfl, rfl, by decide +kernel, rfl, by decide +kernel, by decide +kernel⟩
theorem sc_law_roll : FnScope (["cup", "many", "found"] : List Str) (["cup", "many"] : List Str) (defScope s_law_roll) := ⟨rfl, rfl, rfl, by decide +kernel, rfl, by decide +kernel, by decide +kernel⟩
theorem sc_law_some : FnScope (["cup", "things"] : List Str) (["cup", "things"] : List Str) (defScope s_law_some) := ⟨rfl, rfl, rfl, by decide +kernel, rfl, by decide +kernel, by decide +kernel⟩
theorem sc_law_sort : FnScope (["value"] : List Str) (["value"] : List Str) (defScope s_law_sort) := ⟨rfl, rfl, rfl, by decide +kernel, rfl, by decide +kernel, by decide +kernel⟩
theorem sc_law_like : FnScope (["one", "other", "sort", "first", "second"] : List Str) (["one", "other"] : List Str) (defScope s_law_like) := ⟨rfl, rfl, rfl, by decide +kernel, rfl, by decide +kernel, by decide +kernel⟩
theorem sc_law_root : FnScope (["value", "low", "high", "turn", "middle"] : List Str) (["value"] : List Str) (defScope s_law_root) := ⟨rfl, rfl, rfl, by decide +kernel, rfl, by decide +kernel, by decide +kernel⟩
theorem sc_law_is_unit : FnScope (["number", "value", "own"] : List Str) (["number", "value"] : List Str) (defScope s_law_is_unit) := ⟨rfl, rfl, rfl, by decide +kernel, rfl, by decide +kernel, by decide +kernel⟩
theorem sc_law_norm : FnScope (["number", "unit"] : List Str) (["number", "unit"] : List Str) (defScope s_law_norm) := ⟨rfl, rfl, rfl, by decide +kernel, rfl, by decide +kernel, by decide +kernel⟩
theorem sc_law_times : FnScope (["number", "one", "other", "s", "x", "y", "whole", "part"] : List Str) (["number", "one", "other"] : List Str) (defScope s_law_times) := ⟨rfl, rfl, rfl, by decide +kernel, rfl, by decide +kernel, by decide +kernel⟩
theorem sc_law_power : FnScope (["number", "unit", "often", "own", "found", "turn"] : List Str) (["number", "unit", "often"] : List Str) (defScope s_law_power) := ⟨rfl, rfl, rfl, by decide +kernel, rfl, by decide +kernel, by decide +kernel⟩
theorem sc_law_first : FnScope (["number", "u", "more", "square"] : List Str) (["number"] : List Str) (defScope s_law_first) := ⟨rfl, rfl, rfl, by decide +kernel, rfl, by decide +kernel, by decide +kernel⟩
theorem sc_law_error : FnScope (["call", "e", "rows", "word", "fits_v"] : List Str) (["call"] : List Str) (defScope s_law_error) := ⟨rfl, rfl, rfl, by decide +kernel, rfl, by decide +kernel, by decide +kernel⟩
theorem sc_law_number : FnScope (["cup", "some"] : List Str) (["cup"] : List Str) (defScope s_law_number) := ⟨rfl, rfl, rfl, by decide +kernel, rfl, by decide +kernel, by decide +kernel⟩
theorem sc_law_unit : FnScope (["cup", "number", "some", "t", "found", "u"] : List Str) (["cup", "number"] : List Str) (defScope s_law_unit) := ⟨rfl, rfl, rfl, by decide +kernel, rfl, by decide +kernel, by decide +kernel⟩
theorem sc_law_is_free : FnScope (["number"] : List Str) (["number"] : List Str) (defScope s_law_is_free) := ⟨rfl, rfl, rfl, by decide +kernel, rfl, by decide +kernel, by decide +kernel⟩
theorem sc_law_near : FnScope (["cup", "unit", "t", "u", "values"] : List Str) (["cup", "unit"] : List Str) (defScope s_law_near) := ⟨rfl, rfl, rfl, by decide +kernel, rfl, by decide +kernel, by decide +kernel⟩
theorem sc_law_right : FnScope (["cup", "number", "one", "other", "both", "often", "told", "due", "value"] : List Str) (["cup", "number"] : List Str) (defScope s_law_right) := ⟨rfl, rfl, rfl, by decide +kernel, rfl, by decide +kernel, by decide +kernel⟩
theorem sc_law_ten : FnScope (["many", "found", "turn"] : List Str) (["many"] : List Str) (defScope s_law_ten) := ⟨rfl, rfl, rfl, by decide +kernel, rfl, by decide +kernel, by decide +kernel⟩
theorem sc_law_digits_right : FnScope (["e", "far", "words", "long", "told", "often"] : List Str) ([] : List Str) (defScope s_law_digits_right) := ⟨rfl, rfl, rfl, by decide +kernel, rfl, by decide +kernel, by decide +kernel⟩
theorem sc_law_errors_right : FnScope (["words", "odd", "number", "call"] : List Str) ([] : List Str) (defScope s_law_errors_right) := ⟨rfl, rfl, rfl, by decide +kernel, rfl, by decide +kernel, by decide +kernel⟩
theorem sc_law : FnScope (["script", "cup", "turn", "values", "told", "due", "value"] : List Str) (["script"] : List Str) (defScope s_law) := ⟨rfl, rfl, rfl, by decide +kernel, rfl, by decide +kernel, by decide +kernel⟩
theorem hlen_is_whole (ds : List D) (st : Store) (h : ds.length ≠ 3) : m_is_whole ds st = .bad := fnM_len ds st h
theorem hlen_need_whole (ds : List D) (st : Store) (h : ds.length ≠ 3) : m_need_whole ds st = .bad := fnM_len ds st h
theorem hlen_is_tuple_of (ds : List D) (st : Store) (h : ds.length ≠ 3) : m_is_tuple_of ds st = .bad := fnM_len ds st h
theorem hlen_is_integer (ds : List D) (st : Store) (h : ds.length ≠ 1) : m_is_integer ds st = .bad := fnM_len ds st h
theorem hlen_root (ds : List D) (st : Store) (h : ds.length ≠ 1) : m_root ds st = .bad := fnM_len ds st h
theorem hlen_is_square (ds : List D) (st : Store) (h : ds.length ≠ 1) : m_is_square ds st = .bad := fnM_len ds st h
theorem hlen_is_number (ds : List D) (st : Store) (h : ds.length ≠ 1) : m_is_number ds st = .bad := fnM_len ds st h
theorem hlen_need_number (ds : List D) (st : Store) (h : ds.length ≠ 1) : m_need_number ds st = .bad := fnM_len ds st h
theorem hlen_is_free_in (ds : List D) (st : Store) (h : ds.length ≠ 1) : m_is_free_in ds st = .bad := fnM_len ds st h
theorem hlen_need_free (ds : List D) (st : Store) (h : ds.length ≠ 1) : m_need_free ds st = .bad := fnM_len ds st h
theorem hlen_size_of (ds : List D) (st : Store) (h : ds.length ≠ 2) : m_size_of ds st = .bad := fnM_len ds st h
theorem hlen_fits (ds : List D) (st : Store) (h : ds.length ≠ 2) : m_fits ds st = .bad := fnM_len ds st h
theorem hlen_need_unit (ds : List D) (st : Store) (h : ds.length ≠ 2) : m_need_unit ds st = .bad := fnM_len ds st h
theorem hlen_norm_of (ds : List D) (st : Store) (h : ds.length ≠ 2) : m_norm_of ds st = .bad := fnM_len ds st h
theorem hlen_times (ds : List D) (st : Store) (h : ds.length ≠ 3) : m_times ds st = .bad := fnM_len ds st h
theorem hlen_back (ds : List D) (st : Store) (h : ds.length ≠ 2) : m_back ds st = .bad := fnM_len ds st h
theorem hlen_opposite (ds : List D) (st : Store) (h : ds.length ≠ 1) : m_opposite ds st = .bad := fnM_len ds st h
theorem hlen_bits_of (ds : List D) (st : Store) (h : ds.length ≠ 1) : m_bits_of ds st = .bad := fnM_len ds st h
theorem hlen_raised (ds : List D) (st : Store) (h : ds.length ≠ 4) : m_raised ds st = .bad := fnM_len ds st h
theorem hlen_grown (ds : List D) (st : Store) (h : ds.length ≠ 2) : m_grown ds st = .bad := fnM_len ds st h
theorem hlen_great (ds : List D) (st : Store) (h : ds.length ≠ 0) : m_great ds st = .bad := fnM_len ds st h
theorem hlen_is_above (ds : List D) (st : Store) (h : ds.length ≠ 1) : m_is_above ds st = .bad := fnM_len ds st h
theorem hlen_is_discriminant (ds : List D) (st : Store) (h : ds.length ≠ 1) : m_is_discriminant ds st = .bad := fnM_len ds st h
theorem hlen_is_free (ds : List D) (st : Store) (h : ds.length ≠ 1) : m_is_free ds st = .bad := fnM_len ds st h
theorem hlen_is_unit (ds : List D) (st : Store) (h : ds.length ≠ 2) : m_is_unit ds st = .bad := fnM_len ds st h
theorem hlen_unit_norm (ds : List D) (st : Store) (h : ds.length ≠ 2) : m_unit_norm ds st = .bad := fnM_len ds st h
theorem hlen_unit_product (ds : List D) (st : Store) (h : ds.length ≠ 3) : m_unit_product ds st = .bad := fnM_len ds st h
theorem hlen_unit_back (ds : List D) (st : Store) (h : ds.length ≠ 2) : m_unit_back ds st = .bad := fnM_len ds st h
theorem hlen_unit_opposite (ds : List D) (st : Store) (h : ds.length ≠ 2) : m_unit_opposite ds st = .bad := fnM_len ds st h
theorem hlen_unit_power (ds : List D) (st : Store) (h : ds.length ≠ 3) : m_unit_power ds st = .bad := fnM_len ds st h
theorem hlen_is_above_one (ds : List D) (st : Store) (h : ds.length ≠ 2) : m_is_above_one ds st = .bad := fnM_len ds st h
theorem hlen_law_cup {sn : List Int} (ds : List D) (st : Store) (h : ds.length ≠ 1) : m_law_cup sn ds st = .bad := fnM_len ds st h
theorem hlen_law_roll (ds : List D) (st : Store) (h : ds.length ≠ 2) : m_law_roll ds st = .bad := fnM_len ds st h
theorem hlen_law_some (ds : List D) (st : Store) (h : ds.length ≠ 2) : m_law_some ds st = .bad := fnM_len ds st h
theorem hlen_law_sort (ds : List D) (st : Store) (h : ds.length ≠ 1) : m_law_sort ds st = .bad := fnM_len ds st h
theorem hlen_law_like (ds : List D) (st : Store) (h : ds.length ≠ 2) {n : Nat} : m_law_like n ds st = .bad := by
  cases n with
  | zero => rfl
  | succ n => exact fnM_len ds st h
theorem hlen_law_root (ds : List D) (st : Store) (h : ds.length ≠ 1) : m_law_root ds st = .bad := fnM_len ds st h
theorem hlen_law_is_unit (ds : List D) (st : Store) (h : ds.length ≠ 2) : m_law_is_unit ds st = .bad := fnM_len ds st h
theorem hlen_law_norm (ds : List D) (st : Store) (h : ds.length ≠ 2) : m_law_norm ds st = .bad := fnM_len ds st h
theorem hlen_law_times (ds : List D) (st : Store) (h : ds.length ≠ 3) : m_law_times ds st = .bad := fnM_len ds st h
theorem hlen_law_power (ds : List D) (st : Store) (h : ds.length ≠ 3) : m_law_power ds st = .bad := fnM_len ds st h
theorem hlen_law_first (ds : List D) (st : Store) (h : ds.length ≠ 1) : m_law_first ds st = .bad := fnM_len ds st h
theorem hlen_law_number (ds : List D) (st : Store) (h : ds.length ≠ 1) : m_law_number ds st = .bad := fnM_len ds st h
theorem hlen_law_unit (ds : List D) (st : Store) (h : ds.length ≠ 2) : m_law_unit ds st = .bad := fnM_len ds st h
theorem hlen_law_is_free (ds : List D) (st : Store) (h : ds.length ≠ 1) : m_law_is_free ds st = .bad := fnM_len ds st h
theorem hlen_law_near (ds : List D) (st : Store) (h : ds.length ≠ 2) : m_law_near ds st = .bad := fnM_len ds st h
theorem hlen_law_right (ds : List D) (st : Store) (h : ds.length ≠ 2) : m_law_right ds st = .bad := fnM_len ds st h
theorem hlen_law_ten (ds : List D) (st : Store) (h : ds.length ≠ 1) : m_law_ten ds st = .bad := fnM_len ds st h
theorem hlen_law_digits_right (ds : List D) (st : Store) (h : ds.length ≠ 0) : m_law_digits_right ds st = .bad := fnM_len ds st h
theorem hlen_law_errors_right (ds : List D) (st : Store) (h : ds.length ≠ 0) : m_law_errors_right ds st = .bad := fnM_len ds st h
theorem hlen_law {sn : List Int} (ds : List D) (st : Store) (h : ds.length ≠ 1) : m_law sn ds st = .bad := fnM_len ds st h
theorem werrOf_ok {c0 : Nat} {z : Str} (h : werrOf c0 = some z) : ∃ st, ms_err c0 ((List.replicate 5 none).set 1 (some (.exn c0))) [] = .ok (.ret (.str z)) st := by
  unfold werrOf at h
  split at h
  · rename_i e; cases h; exact ⟨_, e⟩
  · cases h
theorem cl_cod (T : Top P G mg a) (c : Nat) : G.cl c = G.ct (cod c) := by
  unfold Gx.cl cod
  rw [T.lcN]
theorem cod_of {c : Nat} {z : Str} (h : werr c = some z) : cod c = 0 ∨ cod c = 1 ∨ cod c = 2 ∨ cod c = 3 ∨ cod c = 4 := by
  unfold werr at h
  split at h
  · have e : cod c = 4 := if_neg (by omega)
    rw [e]
    decide
  split at h <;> first | decide | cases h
theorem hms_err : ∀ (c0 : Nat) (z : Str), werr c0 = some z → ∃ st, ms_err c0 ((List.replicate 5 none).set 1 (some (.exn c0))) [] = .ok (.ret (.str z)) st := fun c0 z h => by
  unfold werr at h
  split at h
  · exact werrOf_ok h
  split at h <;> first | exact werrOf_ok h | cases h
theorem hex_err (T : Top P G mg a) {c : Nat} {z : Str} (h : werr c = some z) : PySem.W.exmOne G.K (.ref (G.cl c)) (.ref (G.ct 0)) = some true := by
  rw [cl_cod T]
  rcases cod_of h with e | e | e | e | e
  · rw [e]
    exact exm_below T.cb_WholeError T.ci_WholeError T.ct_WholeError T.s_0_0
  · rw [e]
    exact exm_below T.cb_WholeError T.ci_WholeError T.ct_WholeError T.s_1_0
  · rw [e]
    exact exm_below T.cb_WholeError T.ci_WholeError T.ct_WholeError T.s_2_0
  · rw [e]
    exact exm_below T.cb_WholeError T.ci_WholeError T.ct_WholeError T.s_3_0
  · rw [e]
    exact exm_below T.cb_WholeError T.ci_WholeError T.ct_WholeError T.s_4_0
theorem hce_err (T : Top P G mg a) {c : Nat} {z : Str} (h : werr c = some z) : ExcC G.K (G.cl c) := by
  rw [cl_cod T]
  rcases cod_of h with e | e | e | e | e
  · rw [e]
    exact T.ce_WholeError
  · rw [e]
    exact T.ce_InvalidNumber
  · rw [e]
    exact T.ce_InvalidUnit
  · rw [e]
    exact T.ce_NotNow
  · rw [e]
    exact T.ce_TooMany
theorem kit_err0 (T : Top P G mg a) {c : Nat} {z : Str} (h : werr c = some z) : PySem.W.kitOne G.K (.ref (G.cl c)) (.ref (G.ct 0)) = some (subC c 0) := by
  unfold subC
  rw [cl_cod T]
  rcases cod_of h with e | e | e | e | e
  · rw [e]
    exact kit_one T.ci_WholeError T.ct_WholeError T.s_0_0 fun _ => rfl
  · rw [e]
    exact kit_one T.ci_WholeError T.ct_WholeError T.s_1_0 fun _ => rfl
  · rw [e]
    exact kit_one T.ci_WholeError T.ct_WholeError T.s_2_0 fun _ => rfl
  · rw [e]
    exact kit_one T.ci_WholeError T.ct_WholeError T.s_3_0 fun _ => rfl
  · rw [e]
    exact kit_one T.ci_WholeError T.ct_WholeError T.s_4_0 fun _ => rfl
theorem kit_err1 (T : Top P G mg a) {c : Nat} {z : Str} (h : werr c = some z) : PySem.W.kitOne G.K (.ref (G.cl c)) (.ref (G.ct 1)) = some (subC c 1) := by
  unfold subC
  rw [cl_cod T]
  rcases cod_of h with e | e | e | e | e
  · rw [e]
    exact kit_one T.ci_InvalidNumber T.ct_InvalidNumber T.s_0_1 fun e => by
      have q := T.s_0_1
      rw [← e, T.s_0_0] at q
      exact absurd q (by decide)
  · rw [e]
    exact kit_one T.ci_InvalidNumber T.ct_InvalidNumber T.s_1_1 fun _ => rfl
  · rw [e]
    exact kit_one T.ci_InvalidNumber T.ct_InvalidNumber T.s_2_1 fun e => by
      have q := T.s_2_1
      rw [← e, T.s_2_2] at q
      exact absurd q (by decide)
  · rw [e]
    exact kit_one T.ci_InvalidNumber T.ct_InvalidNumber T.s_3_1 fun e => by
      have q := T.s_3_1
      rw [← e, T.s_3_3] at q
      exact absurd q (by decide)
  · rw [e]
    exact kit_one T.ci_InvalidNumber T.ct_InvalidNumber T.s_4_1 fun e => by
      have q := T.s_4_1
      rw [← e, T.s_4_4] at q
      exact absurd q (by decide)
theorem kit_err2 (T : Top P G mg a) {c : Nat} {z : Str} (h : werr c = some z) : PySem.W.kitOne G.K (.ref (G.cl c)) (.ref (G.ct 2)) = some (subC c 2) := by
  unfold subC
  rw [cl_cod T]
  rcases cod_of h with e | e | e | e | e
  · rw [e]
    exact kit_one T.ci_InvalidUnit T.ct_InvalidUnit T.s_0_2 fun e => by
      have q := T.s_0_2
      rw [← e, T.s_0_0] at q
      exact absurd q (by decide)
  · rw [e]
    exact kit_one T.ci_InvalidUnit T.ct_InvalidUnit T.s_1_2 fun e => by
      have q := T.s_1_2
      rw [← e, T.s_1_1] at q
      exact absurd q (by decide)
  · rw [e]
    exact kit_one T.ci_InvalidUnit T.ct_InvalidUnit T.s_2_2 fun _ => rfl
  · rw [e]
    exact kit_one T.ci_InvalidUnit T.ct_InvalidUnit T.s_3_2 fun e => by
      have q := T.s_3_2
      rw [← e, T.s_3_3] at q
      exact absurd q (by decide)
  · rw [e]
    exact kit_one T.ci_InvalidUnit T.ct_InvalidUnit T.s_4_2 fun e => by
      have q := T.s_4_2
      rw [← e, T.s_4_4] at q
      exact absurd q (by decide)
theorem kit_err3 (T : Top P G mg a) {c : Nat} {z : Str} (h : werr c = some z) : PySem.W.kitOne G.K (.ref (G.cl c)) (.ref (G.ct 3)) = some (subC c 3) := by
  unfold subC
  rw [cl_cod T]
  rcases cod_of h with e | e | e | e | e
  · rw [e]
    exact kit_one T.ci_NotNow T.ct_NotNow T.s_0_3 fun e => by
      have q := T.s_0_3
      rw [← e, T.s_0_0] at q
      exact absurd q (by decide)
  · rw [e]
    exact kit_one T.ci_NotNow T.ct_NotNow T.s_1_3 fun e => by
      have q := T.s_1_3
      rw [← e, T.s_1_1] at q
      exact absurd q (by decide)
  · rw [e]
    exact kit_one T.ci_NotNow T.ct_NotNow T.s_2_3 fun e => by
      have q := T.s_2_3
      rw [← e, T.s_2_2] at q
      exact absurd q (by decide)
  · rw [e]
    exact kit_one T.ci_NotNow T.ct_NotNow T.s_3_3 fun _ => rfl
  · rw [e]
    exact kit_one T.ci_NotNow T.ct_NotNow T.s_4_3 fun e => by
      have q := T.s_4_3
      rw [← e, T.s_4_4] at q
      exact absurd q (by decide)
theorem kit_err4 (T : Top P G mg a) {c : Nat} {z : Str} (h : werr c = some z) : PySem.W.kitOne G.K (.ref (G.cl c)) (.ref (G.ct 4)) = some (subC c 4) := by
  unfold subC
  rw [cl_cod T]
  rcases cod_of h with e | e | e | e | e
  · rw [e]
    exact kit_one T.ci_TooMany T.ct_TooMany T.s_0_4 fun e => by
      have q := T.s_0_4
      rw [← e, T.s_0_0] at q
      exact absurd q (by decide)
  · rw [e]
    exact kit_one T.ci_TooMany T.ct_TooMany T.s_1_4 fun e => by
      have q := T.s_1_4
      rw [← e, T.s_1_1] at q
      exact absurd q (by decide)
  · rw [e]
    exact kit_one T.ci_TooMany T.ct_TooMany T.s_2_4 fun e => by
      have q := T.s_2_4
      rw [← e, T.s_2_2] at q
      exact absurd q (by decide)
  · rw [e]
    exact kit_one T.ci_TooMany T.ct_TooMany T.s_3_4 fun e => by
      have q := T.s_3_4
      rw [← e, T.s_3_3] at q
      exact absurd q (by decide)
  · rw [e]
    exact kit_one T.ci_TooMany T.ct_TooMany T.s_4_4 fun _ => rfl
theorem kit_err (T : Top P G mg a) {c0 : Nat} {z : Str} (h : werr c0 = some z) : ∀ k, k < 5 → PySem.W.kitOne G.K (.ref (G.cl c0)) (.ref (G.ct k)) = some (subC c0 k)
  | 0, _ => kit_err0 T h
  | 1, _ => kit_err1 T h
  | 2, _ => kit_err2 T h
  | 3, _ => kit_err3 T h
  | 4, _ => kit_err4 T h
  | k + 5, q => absurd q (by omega)
theorem tells_err (T : Top P G mg a) {A : Around} {stk : List PySem.Env} {g : Addr} {cdg : Value} {q : Str} : Tells P w G.K mg base A stk G (["call", "e", "rows", "word", "fits_v"] : List Str) "_law_error" (defScope s_law_error) g cdg (defBody s_law_error) "call" q werr nerr :=
  tells_of (ms := ms_err) (ie := 1) (xe := "WholeError") (n := "e") sc_law_error.nd rfl rfl rfl T.cg_WholeError (by decide) (fun f => rfl) (fun f => rfl) (by decide) (fun c0 z hw => hex_err T hw) (fun f s H a0 oe c0 z d pn hw hn hz hv => by
    have hotx := HotM.hot_suite (a := a0) (X := (cxOf CX0 P w G.K mg base (["call", "e", "rows", "word", "fits_v"] : List Str) "_law_error" (defScope s_law_error) g cdg A stk s H E0).nox) (pn := pn) hz hv
    have hot1 := hot1_suite (a := a0) (X := (cxOf CX0 P w G.K mg base (["call", "e", "rows", "word", "fits_v"] : List Str) "_law_error" (defScope s_law_error) g cdg A stk s H E0).nox) (pn := pn) hz hv
    have hcall := call_isD (a := a0) (X := (cxOf CX0 P w G.K mg base (["call", "e", "rows", "word", "fits_v"] : List Str) "_law_error" (defScope s_law_error) g cdg A stk s H E0).nox) (pn := pn) (hce_err T hw) hz.zc hv
    have hlimc := lim_cl (G := G) hn
    rw [← T.lcE] at hlimc
    have hkit := kit_err T hw
    exact (ds_cons (ds_asg (d_lst (da_cons (d_tup (da_cons (d_str (by decide +kernel)) (da_cons (d_isE (c0 := c0) rfl rfl hn rfl T.n_isinstance hcall (pv 1) (pe_glob rfl (T.cg_InvalidNumber) rfl) (hkit 1 (by decide)) (fun t h1 => pe_callB hcall rfl T.n_isinstance (by decide +kernel) h1)) da_nil))) (da_cons (d_tup (da_cons (d_str (by decide +kernel)) (da_cons (d_isE (c0 := c0) rfl rfl hn rfl T.n_isinstance hcall (pv 1) (pe_glob rfl (T.cg_InvalidUnit) rfl) (hkit 2 (by decide)) (fun t h1 => pe_callB hcall rfl T.n_isinstance (by decide +kernel) h1)) da_nil))) (da_cons (d_tup (da_cons (d_str (by decide +kernel)) (da_cons (d_isE (c0 := c0) rfl rfl hn rfl T.n_isinstance hcall (pv 1) (pe_glob rfl (T.cg_NotNow) rfl) (hkit 3 (by decide)) (fun t h1 => pe_callB hcall rfl T.n_isinstance (by decide +kernel) h1)) da_nil))) da_nil)))) (dg_name (i := 2) sc_law_error.nd rfl (by first | exact Or.inl rfl | exact Or.inr rfl)) (fun te g h1 h2 => ps_asg h1 h2))
  (ds_cons (ds_if (d_truth rfl (d_isE (c0 := c0) rfl rfl hn rfl T.n_isinstance hcall (pv 1) (pe_glob rfl (T.cg_TooMany) rfl) (hkit 4 (by decide)) (fun t h1 => pe_callB hcall rfl T.n_isinstance (by decide +kernel) h1))) (ds_one (ds_expr (d_append (d_name (pv 2)) (da_cons (d_tup (da_cons (d_bin (o_add rfl) (d_str (by decide +kernel)) (d_callTy (c_str SkE.call_str_str) rfl T.n_str (by decide +kernel) (da_cons (d_lim (c0 := c0) rfl rfl hlimc (pv 1) (fun t h1 => pe_xf (xfc_of T.ce_TooMany) T.nol hz.zc hv h1)) da_nil) (fun r t h1 h2 => pe_callTy h1 rfl T.n_str (by decide +kernel) h2))) (da_cons d_bl da_nil))) da_nil) (fun to t h1 h2 => pe_bm PySem.F.plainAttrs_list PySem.F.slot_list_append PySem.F.type_list_append mt_append h1 h2)))) ds_nil)
  (ds_one (ds_ret (d_orT rfl (d_join (a := ⟨#[32]⟩) (pe_strE (by decide +kernel)) (d_lcH (own := [("word", 3), ("fits_v", 4)]) (t := (.tp (.cons (.nm 3) (.cons (.nm 4) .nil)))) rfl (by rfl) (d_name (pv 2)) (fun s H C cl fp hotx => (dg_tup rfl (dgs_cons (dg_name (i := 3) sc_law_error.nd rfl (by first | exact Or.inl rfl | exact Or.inr rfl)) (dgs_cons (dg_name (i := 4) sc_law_error.nd rfl (by first | exact Or.inl rfl | exact Or.inr rfl)) dgs_nil (fun t u h1 h2 => pgs_cons h1 h2)) (fun t u h1 h2 => pgs_cons h1 h2)) (fun t h1 => HotM.pg_tupH hotx h1))) (fun s H C cl fp hotx => (dts_one (d_truth rfl (d_name (pv 4))))) (fun s H C cl fp hotx => (d_name (pv 3))) (fun tl g tt te h1 h2 h3 h4 => HotM.pe_lcH hot1 List.mem_cons_self sc_law_error.nd h1 (blkOk_by (show blkC (["call", "e", "rows", "word", "fits_v"] : List Str) (defScope s_law_error) _ _ = true by decide +kernel)) h2 h3 h4)) (fun to te h1 h2 => pe_join h1 h2)) (d_one (d_str (by decide +kernel))) (fun ta tb h1 h2 => pe_orT h1 h2))))))) hms_err
theorem ok_is_whole (T : Top P G mg a) : FnOk P w G.K mg base (L2N.CX P w) 1 a.a_is_whole a.d_is_whole (["value", "low", "high"] : List Str) (spM G 3 (m_is_whole)) := by
  exact fn_ok (n := 3) (k := 0) T.f_is_whole sc_is_whole rfl fun cdv A outer s H E hr => (ds_one (ds_ret (d_and (d_callB (c_isi rfl) rfl T.n_isinstance (by decide +kernel) (da_cons (d_name (pv 0)) (da_cons (d_type (k := 0) rfl T.n_int (by decide +kernel)) da_nil)) (fun r t h1 h2 => pe_callB h1 rfl T.n_isinstance (by decide +kernel) h2)) (d_and (d_not (d_callB (c_isi rfl) rfl T.n_isinstance (by decide +kernel) (da_cons (d_name (pv 0)) (da_cons (d_type (k := 1) rfl T.n_bool (by decide +kernel)) da_nil)) (fun r t h1 h2 => pe_callB h1 rfl T.n_isinstance (by decide +kernel) h2))) (d_one (d_chain (o_le) (o_le) (d_name (pv 1)) (d_name (pv 0)) (d_name (pv 2)) (fun _ _ _ _ _ h1 h2 h3 h4 h5 => pe_chain h1 h2 h3 h4 h5)))))))
theorem ok_need_whole (T : Top P G mg a) : FnOk P w G.K mg base (L2N.CX P w) 2 a.a_need_whole a.d_need_whole (["value", "low", "high"] : List Str) (spM G 3 (m_need_whole)) := by
  exact fn_ok (n := 3) (k := 1) T.f_need_whole sc_need_whole rfl fun cdv A outer s H E hr => (ds_one (ds_if (dt_not (d_truth rfl (d_fn (ok_is_whole T) (L2N.takes_of rfl rfl rfl rfl) (da_cons (d_name (pv 0)) (da_cons (d_name (pv 1)) (da_cons (d_name (pv 2)) da_nil))) (fun ds st h => hlen_is_whole ds st h) (fun t hx ha => pe_callS (ok_is_whole T) (hr.mono (by decide)) rfl ( T.g_is_whole) ( T.f_is_whole.kp) ( T.b_is_whole) hx ha)))) (ds_one (ds_raise (c := 1) (by decide) rfl (L2N.takes_of rfl rfl rfl rfl) (L2N.pmk_own PySem.F.excBase_ValueError T.x_InvalidNumber T.cg_InvalidNumber T.ck_InvalidNumber (raises_own T.cb_InvalidNumber T.ct_InvalidNumber) rfl))) ds_nil))
theorem ok_is_tuple_of (T : Top P G mg a) : FnOk P w G.K mg base (L2N.CX P w) 1 a.a_is_tuple_of a.d_is_tuple_of (["value", "low", "high"] : List Str) (spM G 3 (m_is_tuple_of)) := by
  exact fn_ok (n := 3) (k := 0) T.f_is_tuple_of sc_is_tuple_of rfl fun cdv A outer s H E hr => (ds_one (ds_ret (d_and (d_callB (c_isi rfl) rfl T.n_isinstance (by decide +kernel) (da_cons (d_name (pv 0)) (da_cons (d_type (k := 3) rfl T.n_tuple (by decide +kernel)) da_nil)) (fun r t h1 h2 => pe_callB h1 rfl T.n_isinstance (by decide +kernel) h2)) (d_one (d_chain (o_le) (o_le) (d_name (pv 1)) (d_callB (c_len rfl) rfl T.n_len (by decide +kernel) (da_cons (d_name (pv 0)) da_nil) (fun r t h1 h2 => pe_callB h1 rfl T.n_len (by decide +kernel) h2)) (d_name (pv 2)) (fun _ _ _ _ _ h1 h2 h3 h4 h5 => pe_chain h1 h2 h3 h4 h5))))))
theorem ok_is_integer (T : Top P G mg a) : FnOk P w G.K mg base (L2N.CX P w) 1 a.a_is_integer a.d_is_integer (["value"] : List Str) (spM G 1 (m_is_integer)) := by
  exact fn_ok (n := 1) (k := 0) T.f_is_integer sc_is_integer rfl fun cdv A outer s H E hr => (ds_one (ds_ret (d_and (d_callB (c_isi rfl) rfl T.n_isinstance (by decide +kernel) (da_cons (d_name (pv 0)) (da_cons (d_type (k := 0) rfl T.n_int (by decide +kernel)) da_nil)) (fun r t h1 h2 => pe_callB h1 rfl T.n_isinstance (by decide +kernel) h2)) (d_one (d_not (d_callB (c_isi rfl) rfl T.n_isinstance (by decide +kernel) (da_cons (d_name (pv 0)) (da_cons (d_type (k := 1) rfl T.n_bool (by decide +kernel)) da_nil)) (fun r t h1 h2 => pe_callB h1 rfl T.n_isinstance (by decide +kernel) h2)))))))
theorem ok_root (T : Top P G mg a) : FnOk P w G.K mg base (L2N.CX P w) 1 a.a_root a.d_root (["number"] : List Str) (spM G 1 (m_root)) := by
  exact fn_ok (n := 1) (k := 0) T.f_root sc_root rfl fun cdv A outer s H E hr => (ds_cons (ds_if (d_cmpT (o_lt) (d_name (pv 0)) d_int (nomark _)) (ds_one (ds_ret (d_name (pv 0)))) ds_nil)
  (ds_cons (ds_asg d_int (dg_name (i := 1) sc_root.nd rfl (by first | exact Or.inl rfl | exact Or.inr rfl)) (fun te g h1 h2 => ps_asg h1 h2))
  (ds_cons (ds_while (passes_of rfl) (d_cmpT (o_lt) (d_bin (o_mul rfl) (d_name (pv 1)) (d_name (pv 1))) (d_name (pv 0)) (nomark _)) (ds_one (ds_asg (d_bin (o_mul rfl) (d_name (pv 1)) d_int) (dg_name (i := 1) sc_root.nd rfl (by first | exact Or.inl rfl | exact Or.inr rfl)) (fun te g h1 h2 => ps_asg h1 h2))))
  (ds_cons (ds_asg (d_bin (o_div) (d_bin (o_add rfl) (d_name (pv 1)) (d_bin (o_div) (d_name (pv 0)) (d_name (pv 1)))) d_int) (dg_name (i := 2) sc_root.nd rfl (by first | exact Or.inl rfl | exact Or.inr rfl)) (fun te g h1 h2 => ps_asg h1 h2))
  (ds_cons (ds_while (passes_of rfl) (d_cmpT (o_lt) (d_name (pv 2)) (d_name (pv 1)) (nomark _)) (ds_cons (ds_asg (d_name (pv 2)) (dg_name (i := 1) sc_root.nd rfl (by first | exact Or.inl rfl | exact Or.inr rfl)) (fun te g h1 h2 => ps_asg h1 h2))
  (ds_one (ds_asg (d_bin (o_div) (d_bin (o_add rfl) (d_name (pv 1)) (d_bin (o_div) (d_name (pv 0)) (d_name (pv 1)))) d_int) (dg_name (i := 2) sc_root.nd rfl (by first | exact Or.inl rfl | exact Or.inr rfl)) (fun te g h1 h2 => ps_asg h1 h2)))))
  (ds_one (ds_ret (d_name (pv 1)))))))))
theorem ok_is_square (T : Top P G mg a) : FnOk P w G.K mg base (L2N.CX P w) 2 a.a_is_square a.d_is_square (["number"] : List Str) (spM G 1 (m_is_square)) := by
  exact fn_ok (n := 1) (k := 1) T.f_is_square sc_is_square rfl fun cdv A outer s H E hr => (ds_one (ds_ret (d_and (d_cmp (o_ge) (d_name (pv 0)) d_int (nomark _)) (d_one (d_cmp (o_eq rfl hr.units) (d_bin (o_pow) (d_fn (ok_root T) (L2N.takes_of rfl rfl rfl rfl) (da_cons (d_name (pv 0)) da_nil) (fun ds st h => hlen_root ds st h) (fun t hx ha => pe_callS (ok_root T) (hr.mono (by decide)) rfl ( T.g_root) ( T.f_root.kp) ( T.b_root) hx ha)) d_int) (d_name (pv 0)) (nomark _))))))
theorem ok_is_number (T : Top P G mg a) : FnOk P w G.K mg base (L2N.CX P w) 2 a.a_is_number a.d_is_number (["value"] : List Str) (spM G 1 (m_is_number)) := by
  exact fn_ok (n := 1) (k := 1) T.f_is_number sc_is_number rfl fun cdv A outer s H E hr => (ds_one (ds_ret (d_and (d_fn (ok_is_whole T) (L2N.takes_of rfl rfl rfl rfl) (da_cons (d_name (pv 0)) (da_cons (d_un o_neg (d_globI rfl T.k_MOST)) (da_cons (d_globI rfl T.k_MOST) da_nil))) (fun ds st h => hlen_is_whole ds st h) (fun t hx ha => pe_callS (ok_is_whole T) (hr.mono (by decide)) rfl ( T.g_is_whole) ( T.f_is_whole.kp) ( T.b_is_whole) hx ha)) (d_one (d_cmp (o_lt) (d_bin (o_mod) (d_callTy (c_int) rfl T.n_int (by decide +kernel) (da_cons (d_name (pv 0)) da_nil) (fun r t h1 h2 => pe_callTy h1 rfl T.n_int (by decide +kernel) h2)) d_int) d_int (nomark _))))))
theorem ok_need_number (T : Top P G mg a) : FnOk P w G.K mg base (L2N.CX P w) 3 a.a_need_number a.d_need_number (["number"] : List Str) (spM G 1 (m_need_number)) := by
  exact fn_ok (n := 1) (k := 2) T.f_need_number sc_need_number rfl fun cdv A outer s H E hr => (ds_one (ds_if (dt_not (d_truth rfl (d_fn (ok_is_number T) (L2N.takes_of rfl rfl rfl rfl) (da_cons (d_name (pv 0)) da_nil) (fun ds st h => hlen_is_number ds st h) (fun t hx ha => pe_callS (ok_is_number T) (hr.mono (by decide)) rfl ( T.g_is_number) ( T.f_is_number.kp) ( T.b_is_number) hx ha)))) (ds_one (ds_raise (c := 1) (by decide) rfl (L2N.takes_of rfl rfl rfl rfl) (L2N.pmk_own PySem.F.excBase_ValueError T.x_InvalidNumber T.cg_InvalidNumber T.ck_InvalidNumber (raises_own T.cb_InvalidNumber T.ct_InvalidNumber) rfl))) ds_nil))
theorem ok_is_free_in (T : Top P G mg a) : FnOk P w G.K mg base (L2N.CX P w) 3 a.a_is_free_in a.d_is_free_in (["number"] : List Str) (spM G 1 (m_is_free_in)) := by
  exact fn_ok (n := 1) (k := 2) T.f_is_free_in sc_is_free_in rfl fun cdv A outer s H E hr => (ds_one (ds_ret (d_and (d_cmp (o_gt) (d_name (pv 0)) d_int (nomark _)) (d_one (d_not (d_fn (ok_is_square T) (L2N.takes_of rfl rfl rfl rfl) (da_cons (d_name (pv 0)) da_nil) (fun ds st h => hlen_is_square ds st h) (fun t hx ha => pe_callS (ok_is_square T) (hr.mono (by decide)) rfl ( T.g_is_square) ( T.f_is_square.kp) ( T.b_is_square) hx ha)))))))
theorem ok_need_free (T : Top P G mg a) : FnOk P w G.K mg base (L2N.CX P w) 4 a.a_need_free a.d_need_free (["number"] : List Str) (spM G 1 (m_need_free)) := by
  exact fn_ok (n := 1) (k := 3) T.f_need_free sc_need_free rfl fun cdv A outer s H E hr => (ds_one (ds_if (dt_not (d_truth rfl (d_fn (ok_is_free_in T) (L2N.takes_of rfl rfl rfl rfl) (da_cons (d_name (pv 0)) da_nil) (fun ds st h => hlen_is_free_in ds st h) (fun t hx ha => pe_callS (ok_is_free_in T) (hr.mono (by decide)) rfl ( T.g_is_free_in) ( T.f_is_free_in.kp) ( T.b_is_free_in) hx ha)))) (ds_one (ds_raise (c := 3) (by decide) rfl (L2N.takes_of rfl rfl rfl rfl) (L2N.pmk_own PySem.F.excBase_ValueError T.x_NotNow T.cg_NotNow T.ck_NotNow (raises_own T.cb_NotNow T.ct_NotNow) rfl))) ds_nil))
theorem ok_size_of (T : Top P G mg a) : FnOk P w G.K mg base (L2N.CX P w) 1 a.a_size_of a.d_size_of (["number", "pair"] : List Str) (spM G 2 (m_size_of)) := by
  exact fn_ok (n := 2) (k := 0) T.f_size_of sc_size_of rfl fun cdv A outer s H E hr => (ds_one (ds_ret (d_bin (o_sub) (d_bin (o_mul rfl) (d_ix rfl (d_name (pv 1)) d_int (fun _ _ => rfl)) (d_ix rfl (d_name (pv 1)) d_int (fun _ _ => rfl))) (d_bin (o_mul rfl) (d_bin (o_mul rfl) (d_name (pv 0)) (d_ix rfl (d_name (pv 1)) d_int (fun _ _ => rfl))) (d_ix rfl (d_name (pv 1)) d_int (fun _ _ => rfl))))))
theorem ok_fits (T : Top P G mg a) : FnOk P w G.K mg base (L2N.CX P w) 2 a.a_fits a.d_fits (["number", "value"] : List Str) (spM G 2 (m_fits)) := by
  exact fn_ok (n := 2) (k := 1) T.f_fits sc_fits rfl fun cdv A outer s H E hr => (ds_cons (ds_if (PW.pt (dw_or (dt_not (d_truth rfl (d_fn (ok_is_tuple_of T) (L2N.takes_of rfl rfl rfl rfl) (da_cons (d_name (pv 1)) (da_cons d_int (da_cons d_int da_nil))) (fun ds st h => hlen_is_tuple_of ds st h) (fun t hx ha => pe_callS (ok_is_tuple_of T) (hr.mono (by decide)) rfl ( T.g_is_tuple_of) ( T.f_is_tuple_of.kp) ( T.b_is_tuple_of) hx ha)))) (dw_or1 (dt_not (d_truth rfl (d_callB (c_all rfl (cr_all rfl)) rfl T.n_all (by decide +kernel) (da_cons (d_lc (own := [("own", 2)]) (t := (.nm 2)) (by rfl) (di_of rfl (d_name (pv 1))) (fun s H C cl fp => (dg_name (i := 2) sc_fits.nd rfl (by first | exact Or.inl rfl | exact Or.inr rfl))) (fun s H C cl fp => dts_nil) (fun s H C cl fp => (d_fn (ok_is_integer T) takesN (da_cons (d_name (pv 2)) da_nil) (fun ds st h => hlen_is_integer ds st h) (fun t hx ha => pe_callS (ok_is_integer T) (hr.mono (by decide)) rfl ( T.g_is_integer) ( T.f_is_integer.kp) ( T.b_is_integer) hx ha))) (fun wi g tt te h1 h2 h3 h4 => pe_lc rfl sc_fits.nd h1 (blkOk_by (show blkC (["number", "value", "own"] : List Str) (defScope s_fits) _ _ = true by decide +kernel)) h2 h3 h4)) da_nil) (fun r t h1 h2 => pe_callB h1 rfl T.n_all (by decide +kernel) h2))))))) (ds_one (ds_ret d_bl)) ds_nil)
  (ds_one (ds_ret (d_cmp (o_in rfl) (d_fn (ok_size_of T) (L2N.takes_of rfl rfl rfl rfl) (da_cons (d_name (pv 0)) (da_cons (d_name (pv 1)) da_nil)) (fun ds st h => hlen_size_of ds st h) (fun t hx ha => pe_callS (ok_size_of T) (hr.mono (by decide)) rfl ( T.g_size_of) ( T.f_size_of.kp) ( T.b_size_of) hx ha)) (d_tup (da_cons d_int (da_cons (d_un o_neg d_int) da_nil))) (by rfl)))))
theorem ok_need_unit (T : Top P G mg a) : FnOk P w G.K mg base (L2N.CX P w) 4 a.a_need_unit a.d_need_unit (["number", "unit"] : List Str) (spM G 2 (m_need_unit)) := by
  exact fn_ok (n := 2) (k := 3) T.f_need_unit sc_need_unit rfl fun cdv A outer s H E hr => (ds_cons (ds_expr (d_fn (ok_need_number T) (L2N.takes_of rfl rfl rfl rfl) (da_cons (d_name (pv 0)) da_nil) (fun ds st h => hlen_need_number ds st h) (fun t hx ha => pe_callS (ok_need_number T) (hr.mono (by decide)) rfl ( T.g_need_number) ( T.f_need_number.kp) ( T.b_need_number) hx ha)))
  (ds_one (ds_if (dt_not (d_truth rfl (d_fn (ok_fits T) (L2N.takes_of rfl rfl rfl rfl) (da_cons (d_name (pv 0)) (da_cons (d_name (pv 1)) da_nil)) (fun ds st h => hlen_fits ds st h) (fun t hx ha => pe_callS (ok_fits T) (hr.mono (by decide)) rfl ( T.g_fits) ( T.f_fits.kp) ( T.b_fits) hx ha)))) (ds_one (ds_raise (c := 2) (by decide) rfl (L2N.takes_of rfl rfl rfl rfl) (L2N.pmk_own PySem.F.excBase_ValueError T.x_InvalidUnit T.cg_InvalidUnit T.ck_InvalidUnit (raises_own T.cb_InvalidUnit T.ct_InvalidUnit) rfl))) ds_nil)))
theorem ok_norm_of (T : Top P G mg a) : FnOk P w G.K mg base (L2N.CX P w) 2 a.a_norm_of a.d_norm_of (["number", "unit"] : List Str) (spM G 2 (m_norm_of)) := by
  exact fn_ok (n := 2) (k := 1) T.f_norm_of sc_norm_of rfl fun cdv A outer s H E hr => (ds_one (ds_ret (d_bin (o_div) (d_fn (ok_size_of T) (L2N.takes_of rfl rfl rfl rfl) (da_cons (d_name (pv 0)) (da_cons (d_name (pv 1)) da_nil)) (fun ds st h => hlen_size_of ds st h) (fun t hx ha => pe_callS (ok_size_of T) (hr.mono (by decide)) rfl ( T.g_size_of) ( T.f_size_of.kp) ( T.b_size_of) hx ha)) d_int)))
theorem ok_times (T : Top P G mg a) : FnOk P w G.K mg base (L2N.CX P w) 1 a.a_times a.d_times (["number", "one", "other"] : List Str) (spM G 3 (m_times)) := by
  exact fn_ok (n := 3) (k := 0) T.f_times sc_times rfl fun cdv A outer s H E hr => (ds_cons (ds_asg (d_name (pv 1)) (dg_tup rfl (dgs_cons (dg_name (i := 3) sc_times.nd rfl (by first | exact Or.inl rfl | exact Or.inr rfl)) (dgs_cons (dg_name (i := 4) sc_times.nd rfl (by first | exact Or.inl rfl | exact Or.inr rfl)) dgs_nil (fun t u h1 h2 => pgs_cons h1 h2)) (fun t u h1 h2 => pgs_cons h1 h2)) (fun t h1 => pg_tup rfl h1)) (fun te g h1 h2 => ps_asg h1 h2))
  (ds_cons (ds_asg (d_name (pv 2)) (dg_tup rfl (dgs_cons (dg_name (i := 5) sc_times.nd rfl (by first | exact Or.inl rfl | exact Or.inr rfl)) (dgs_cons (dg_name (i := 6) sc_times.nd rfl (by first | exact Or.inl rfl | exact Or.inr rfl)) dgs_nil (fun t u h1 h2 => pgs_cons h1 h2)) (fun t u h1 h2 => pgs_cons h1 h2)) (fun t h1 => pg_tup rfl h1)) (fun te g h1 h2 => ps_asg h1 h2))
  (ds_one (ds_ret (d_tup (da_cons (d_bin (o_div) (d_bin (o_add rfl) (d_bin (o_mul rfl) (d_name (pv 3)) (d_name (pv 5))) (d_bin (o_mul rfl) (d_bin (o_mul rfl) (d_name (pv 0)) (d_name (pv 4))) (d_name (pv 6)))) d_int) (da_cons (d_bin (o_div) (d_bin (o_add rfl) (d_bin (o_mul rfl) (d_name (pv 3)) (d_name (pv 6))) (d_bin (o_mul rfl) (d_name (pv 4)) (d_name (pv 5)))) d_int) da_nil)))))))
theorem ok_back (T : Top P G mg a) : FnOk P w G.K mg base (L2N.CX P w) 3 a.a_back a.d_back (["number", "unit"] : List Str) (spM G 2 (m_back)) := by
  exact fn_ok (n := 2) (k := 2) T.f_back sc_back rfl fun cdv A outer s H E hr => (ds_one (ds_ret (d_ifExp (d_cmpT (o_eq rfl hr.units) (d_fn (ok_norm_of T) (L2N.takes_of rfl rfl rfl rfl) (da_cons (d_name (pv 0)) (da_cons (d_name (pv 1)) da_nil)) (fun ds st h => hlen_norm_of ds st h) (fun t hx ha => pe_callS (ok_norm_of T) (hr.mono (by decide)) rfl ( T.g_norm_of) ( T.f_norm_of.kp) ( T.b_norm_of) hx ha)) d_int (nomark _)) (d_tup (da_cons (d_ix rfl (d_name (pv 1)) d_int (fun _ _ => rfl)) (da_cons (d_un o_neg (d_ix rfl (d_name (pv 1)) d_int (fun _ _ => rfl))) da_nil))) (d_tup (da_cons (d_un o_neg (d_ix rfl (d_name (pv 1)) d_int (fun _ _ => rfl))) (da_cons (d_ix rfl (d_name (pv 1)) d_int (fun _ _ => rfl)) da_nil))))))
theorem ok_opposite (T : Top P G mg a) : FnOk P w G.K mg base (L2N.CX P w) 1 a.a_opposite a.d_opposite (["unit"] : List Str) (spM G 1 (m_opposite)) := by
  exact fn_ok (n := 1) (k := 0) T.f_opposite sc_opposite rfl fun cdv A outer s H E hr => (ds_one (ds_ret (d_tup (da_cons (d_un o_neg (d_ix rfl (d_name (pv 0)) d_int (fun _ _ => rfl))) (da_cons (d_un o_neg (d_ix rfl (d_name (pv 0)) d_int (fun _ _ => rfl))) da_nil)))))
theorem ok_bits_of (T : Top P G mg a) : FnOk P w G.K mg base (L2N.CX P w) 1 a.a_bits_of a.d_bits_of (["often"] : List Str) (spM G 1 (m_bits_of)) := by
  exact fn_ok (n := 1) (k := 0) T.f_bits_of sc_bits_of rfl fun cdv A outer s H E hr => (ds_cons (ds_asg (d_lst da_nil) (dg_name (i := 1) sc_bits_of.nd rfl (by first | exact Or.inl rfl | exact Or.inr rfl)) (fun te g h1 h2 => ps_asg h1 h2))
  (ds_cons (ds_while (passes_of rfl) (d_cmpT (o_gt) (d_name (pv 0)) d_int (nomark _)) (ds_cons (ds_expr (d_append (d_name (pv 1)) (da_cons (d_bin (o_mod) (d_callTy (c_int) rfl T.n_int (by decide +kernel) (da_cons (d_name (pv 0)) da_nil) (fun r t h1 h2 => pe_callTy h1 rfl T.n_int (by decide +kernel) h2)) d_int) da_nil) (fun to t h1 h2 => pe_bm PySem.F.plainAttrs_list PySem.F.slot_list_append PySem.F.type_list_append mt_append h1 h2)))
  (ds_one (ds_asg (d_bin (o_div) (d_name (pv 0)) d_int) (dg_name (i := 0) sc_bits_of.nd rfl (by first | exact Or.inl rfl | exact Or.inr rfl)) (fun te g h1 h2 => ps_asg h1 h2)))))
  (ds_one (ds_ret (d_revL rfl (d_name (pv 1)) (fun to h1 => pe_revL h1))))))
theorem ok_raised (T : Top P G mg a) : FnOk P w G.K mg base (L2N.CX P w) 2 a.a_raised a.d_raised (["number", "unit", "often", "most"] : List Str) (spM G 4 (m_raised)) := by
  exact fn_ok (n := 4) (k := 1) T.f_raised sc_raised rfl fun cdv A outer s H E hr => (ds_cons (ds_if (d_cmpT (o_eq rfl hr.units) (d_name (pv 2)) d_int (nomark _)) (ds_one (ds_ret (d_globT rfl rfl T.t_ONE T.kt_ONE))) ds_nil)
  (ds_cons (ds_asg (d_name (pv 1)) (dg_name (i := 4) sc_raised.nd rfl (by first | exact Or.inl rfl | exact Or.inr rfl)) (fun te g h1 h2 => ps_asg h1 h2))
  (ds_cons (ds_for (di_of rfl (d_slice rfl (d_fn (ok_bits_of T) (L2N.takes_of rfl rfl rfl rfl) (da_cons (d_name (pv 2)) da_nil) (fun ds st h => hlen_bits_of ds st h) (fun t hx ha => pe_callS (ok_bits_of T) (hr.mono (by decide)) rfl ( T.g_bits_of) ( T.f_bits_of.kp) ( T.b_bits_of) hx ha)) (dp_some d_int) dp_none)) (dg_name (i := 5) sc_raised.nd rfl (by first | exact Or.inl rfl | exact Or.inr rfl)) (ds_cons (ds_if (d_cmpT (o_ge) (d_callB (c_abs) rfl T.n_abs (by decide +kernel) (da_cons (d_ix rfl (d_name (pv 4)) d_int (fun _ _ => rfl)) da_nil) (fun r t h1 h2 => pe_callB h1 rfl T.n_abs (by decide +kernel) h2)) (d_name (pv 3)) (nomark _)) (ds_one (ds_ret d_non)) ds_nil)
  (ds_cons (ds_asg (d_fn (ok_times T) (L2N.takes_of rfl rfl rfl rfl) (da_cons (d_name (pv 0)) (da_cons (d_name (pv 4)) (da_cons (d_name (pv 4)) da_nil))) (fun ds st h => hlen_times ds st h) (fun t hx ha => pe_callS (ok_times T) (hr.mono (by decide)) rfl ( T.g_times) ( T.f_times.kp) ( T.b_times) hx ha)) (dg_name (i := 4) sc_raised.nd rfl (by first | exact Or.inl rfl | exact Or.inr rfl)) (fun te g h1 h2 => ps_asg h1 h2))
  (ds_one (ds_asg (d_ifExp (d_cmpT (o_eq rfl hr.units) (d_name (pv 5)) d_int (nomark _)) (d_fn (ok_times T) (L2N.takes_of rfl rfl rfl rfl) (da_cons (d_name (pv 0)) (da_cons (d_name (pv 4)) (da_cons (d_name (pv 1)) da_nil))) (fun ds st h => hlen_times ds st h) (fun t hx ha => pe_callS (ok_times T) (hr.mono (by decide)) rfl ( T.g_times) ( T.f_times.kp) ( T.b_times) hx ha)) (d_name (pv 4))) (dg_name (i := 4) sc_raised.nd rfl (by first | exact Or.inl rfl | exact Or.inr rfl)) (fun te g h1 h2 => ps_asg h1 h2))))) (fun wi g tb h1 h2 h3 => ps_for (passes_of rfl) rfl h1 h2 h3))
  (ds_one (ds_ret (d_ifExp (d_cmpT (o_lt) (d_callB (c_abs) rfl T.n_abs (by decide +kernel) (da_cons (d_ix rfl (d_name (pv 4)) d_int (fun _ _ => rfl)) da_nil) (fun r t h1 h2 => pe_callB h1 rfl T.n_abs (by decide +kernel) h2)) (d_name (pv 3)) (nomark _)) (d_name (pv 4)) d_non))))))
theorem ok_grown (T : Top P G mg a) : FnOk P w G.K mg base (L2N.CX P w) 2 a.a_grown a.d_grown (["value", "often"] : List Str) (spM G 2 (m_grown)) := by
  exact fn_ok (n := 2) (k := 1) T.f_grown sc_grown rfl fun cdv A outer s H E hr => (ds_cons (ds_asg d_int (dg_name (i := 2) sc_grown.nd rfl (by first | exact Or.inl rfl | exact Or.inr rfl)) (fun te g h1 h2 => ps_asg h1 h2))
  (ds_cons (ds_for (di_of rfl (d_fn (ok_bits_of T) (L2N.takes_of rfl rfl rfl rfl) (da_cons (d_name (pv 1)) da_nil) (fun ds st h => hlen_bits_of ds st h) (fun t hx ha => pe_callS (ok_bits_of T) (hr.mono (by decide)) rfl ( T.g_bits_of) ( T.f_bits_of.kp) ( T.b_bits_of) hx ha))) (dg_name (i := 3) sc_grown.nd rfl (by first | exact Or.inl rfl | exact Or.inr rfl)) (ds_one (ds_asg (d_bin (o_mul rfl) (d_bin (o_mul rfl) (d_name (pv 2)) (d_name (pv 2))) (d_ifExp (d_cmpT (o_eq rfl hr.units) (d_name (pv 3)) d_int (nomark _)) (d_name (pv 0)) d_int)) (dg_name (i := 2) sc_grown.nd rfl (by first | exact Or.inl rfl | exact Or.inr rfl)) (fun te g h1 h2 => ps_asg h1 h2))) (fun wi g tb h1 h2 h3 => ps_for (passes_of rfl) rfl h1 h2 h3))
  (ds_one (ds_ret (d_name (pv 2))))))
theorem ok_great (T : Top P G mg a) : FnOk P w G.K mg base (L2N.CX P w) 3 a.a_great a.d_great ([] : List Str) (spM G 0 (m_great)) := by
  have gk : ∀ b : SM, _ → FnOk P w G.K mg base (L2N.CX P w) 3 a.a_great a.d_great ([] : List Str) (spM G 0 (fnM 0 0 b)) := fun b hb => fn_ok (n := 0) (k := 2) T.f_great sc_great rfl hb
  unfold m_great
  exact gk (b_great) (fun cdv A outer s H E hr => (ds_one (ds_ret (d_fn (ok_grown T) (L2N.takes_of rfl rfl rfl rfl) (da_cons d_int (da_cons (d_globI rfl T.k_DIGITS) da_nil)) (fun ds st h => hlen_grown ds st h) (fun t hx ha => pe_callS (ok_grown T) (hr.mono (by decide)) rfl ( T.g_grown) ( T.f_grown.kp) ( T.b_grown) hx ha)))))
theorem ok_is_above (T : Top P G mg a) : FnOk P w G.K mg base (L2N.CX P w) 1 a.a_is_above a.d_is_above (["unit"] : List Str) (spM G 1 (m_is_above)) := by
  exact fn_ok (n := 1) (k := 0) T.f_is_above sc_is_above rfl fun cdv A outer s H E hr => (ds_one (ds_ret (d_and (d_cmp (o_gt) (d_ix rfl (d_name (pv 0)) d_int (fun _ _ => rfl)) d_int (nomark _)) (d_one (d_cmp (o_gt) (d_ix rfl (d_name (pv 0)) d_int (fun _ _ => rfl)) d_int (nomark _))))))
theorem ok_is_discriminant (T : Top P G mg a) : FnOk P w G.K mg base (L2N.CX P w) 3 a.a_is_discriminant a.d_is_discriminant (["value"] : List Str) (spM G 1 (m_is_discriminant)) := by
  exact fn_ok (n := 1) (k := 2) T.f_is_discriminant sc_is_discriminant rfl fun cdv A outer s H E hr => (ds_one (ds_ret (d_fn (ok_is_number T) (L2N.takes_of rfl rfl rfl rfl) (da_cons (d_name (pv 0)) da_nil) (fun ds st h => hlen_is_number ds st h) (fun t hx ha => pe_callS (ok_is_number T) (hr.mono (by decide)) rfl ( T.g_is_number) ( T.f_is_number.kp) ( T.b_is_number) hx ha))))
theorem ok_is_free (T : Top P G mg a) : FnOk P w G.K mg base (L2N.CX P w) 4 a.a_is_free a.d_is_free (["number"] : List Str) (spM G 1 (m_is_free)) := by
  exact fn_ok (n := 1) (k := 3) T.f_is_free sc_is_free rfl fun cdv A outer s H E hr => (ds_cons (ds_expr (d_fn (ok_need_number T) (L2N.takes_of rfl rfl rfl rfl) (da_cons (d_name (pv 0)) da_nil) (fun ds st h => hlen_need_number ds st h) (fun t hx ha => pe_callS (ok_need_number T) (hr.mono (by decide)) rfl ( T.g_need_number) ( T.f_need_number.kp) ( T.b_need_number) hx ha)))
  (ds_one (ds_ret (d_fn (ok_is_free_in T) (L2N.takes_of rfl rfl rfl rfl) (da_cons (d_name (pv 0)) da_nil) (fun ds st h => hlen_is_free_in ds st h) (fun t hx ha => pe_callS (ok_is_free_in T) (hr.mono (by decide)) rfl ( T.g_is_free_in) ( T.f_is_free_in.kp) ( T.b_is_free_in) hx ha)))))
theorem ok_is_unit (T : Top P G mg a) : FnOk P w G.K mg base (L2N.CX P w) 4 a.a_is_unit a.d_is_unit (["number", "value"] : List Str) (spM G 2 (m_is_unit)) := by
  exact fn_ok (n := 2) (k := 3) T.f_is_unit sc_is_unit rfl fun cdv A outer s H E hr => (ds_cons (ds_expr (d_fn (ok_need_number T) (L2N.takes_of rfl rfl rfl rfl) (da_cons (d_name (pv 0)) da_nil) (fun ds st h => hlen_need_number ds st h) (fun t hx ha => pe_callS (ok_need_number T) (hr.mono (by decide)) rfl ( T.g_need_number) ( T.f_need_number.kp) ( T.b_need_number) hx ha)))
  (ds_one (ds_ret (d_fn (ok_fits T) (L2N.takes_of rfl rfl rfl rfl) (da_cons (d_name (pv 0)) (da_cons (d_name (pv 1)) da_nil)) (fun ds st h => hlen_fits ds st h) (fun t hx ha => pe_callS (ok_fits T) (hr.mono (by decide)) rfl ( T.g_fits) ( T.f_fits.kp) ( T.b_fits) hx ha)))))
theorem ok_unit_norm (T : Top P G mg a) : FnOk P w G.K mg base (L2N.CX P w) 5 a.a_unit_norm a.d_unit_norm (["number", "unit"] : List Str) (spM G 2 (m_unit_norm)) := by
  exact fn_ok (n := 2) (k := 4) T.f_unit_norm sc_unit_norm rfl fun cdv A outer s H E hr => (ds_cons (ds_expr (d_fn (ok_need_unit T) (L2N.takes_of rfl rfl rfl rfl) (da_cons (d_name (pv 0)) (da_cons (d_name (pv 1)) da_nil)) (fun ds st h => hlen_need_unit ds st h) (fun t hx ha => pe_callS (ok_need_unit T) (hr.mono (by decide)) rfl ( T.g_need_unit) ( T.f_need_unit.kp) ( T.b_need_unit) hx ha)))
  (ds_one (ds_ret (d_fn (ok_norm_of T) (L2N.takes_of rfl rfl rfl rfl) (da_cons (d_name (pv 0)) (da_cons (d_name (pv 1)) da_nil)) (fun ds st h => hlen_norm_of ds st h) (fun t hx ha => pe_callS (ok_norm_of T) (hr.mono (by decide)) rfl ( T.g_norm_of) ( T.f_norm_of.kp) ( T.b_norm_of) hx ha)))))
theorem ok_unit_product (T : Top P G mg a) : FnOk P w G.K mg base (L2N.CX P w) 5 a.a_unit_product a.d_unit_product (["number", "one", "other"] : List Str) (spM G 3 (m_unit_product)) := by
  exact fn_ok (n := 3) (k := 4) T.f_unit_product sc_unit_product rfl fun cdv A outer s H E hr => (ds_cons (ds_expr (d_fn (ok_need_unit T) (L2N.takes_of rfl rfl rfl rfl) (da_cons (d_name (pv 0)) (da_cons (d_name (pv 1)) da_nil)) (fun ds st h => hlen_need_unit ds st h) (fun t hx ha => pe_callS (ok_need_unit T) (hr.mono (by decide)) rfl ( T.g_need_unit) ( T.f_need_unit.kp) ( T.b_need_unit) hx ha)))
  (ds_cons (ds_expr (d_fn (ok_need_unit T) (L2N.takes_of rfl rfl rfl rfl) (da_cons (d_name (pv 0)) (da_cons (d_name (pv 2)) da_nil)) (fun ds st h => hlen_need_unit ds st h) (fun t hx ha => pe_callS (ok_need_unit T) (hr.mono (by decide)) rfl ( T.g_need_unit) ( T.f_need_unit.kp) ( T.b_need_unit) hx ha)))
  (ds_one (ds_ret (d_fn (ok_times T) (L2N.takes_of rfl rfl rfl rfl) (da_cons (d_name (pv 0)) (da_cons (d_name (pv 1)) (da_cons (d_name (pv 2)) da_nil))) (fun ds st h => hlen_times ds st h) (fun t hx ha => pe_callS (ok_times T) (hr.mono (by decide)) rfl ( T.g_times) ( T.f_times.kp) ( T.b_times) hx ha))))))
theorem ok_unit_back (T : Top P G mg a) : FnOk P w G.K mg base (L2N.CX P w) 5 a.a_unit_back a.d_unit_back (["number", "unit"] : List Str) (spM G 2 (m_unit_back)) := by
  exact fn_ok (n := 2) (k := 4) T.f_unit_back sc_unit_back rfl fun cdv A outer s H E hr => (ds_cons (ds_expr (d_fn (ok_need_unit T) (L2N.takes_of rfl rfl rfl rfl) (da_cons (d_name (pv 0)) (da_cons (d_name (pv 1)) da_nil)) (fun ds st h => hlen_need_unit ds st h) (fun t hx ha => pe_callS (ok_need_unit T) (hr.mono (by decide)) rfl ( T.g_need_unit) ( T.f_need_unit.kp) ( T.b_need_unit) hx ha)))
  (ds_one (ds_ret (d_fn (ok_back T) (L2N.takes_of rfl rfl rfl rfl) (da_cons (d_name (pv 0)) (da_cons (d_name (pv 1)) da_nil)) (fun ds st h => hlen_back ds st h) (fun t hx ha => pe_callS (ok_back T) (hr.mono (by decide)) rfl ( T.g_back) ( T.f_back.kp) ( T.b_back) hx ha)))))
theorem ok_unit_opposite (T : Top P G mg a) : FnOk P w G.K mg base (L2N.CX P w) 5 a.a_unit_opposite a.d_unit_opposite (["number", "unit"] : List Str) (spM G 2 (m_unit_opposite)) := by
  exact fn_ok (n := 2) (k := 4) T.f_unit_opposite sc_unit_opposite rfl fun cdv A outer s H E hr => (ds_cons (ds_expr (d_fn (ok_need_unit T) (L2N.takes_of rfl rfl rfl rfl) (da_cons (d_name (pv 0)) (da_cons (d_name (pv 1)) da_nil)) (fun ds st h => hlen_need_unit ds st h) (fun t hx ha => pe_callS (ok_need_unit T) (hr.mono (by decide)) rfl ( T.g_need_unit) ( T.f_need_unit.kp) ( T.b_need_unit) hx ha)))
  (ds_one (ds_ret (d_fn (ok_opposite T) (L2N.takes_of rfl rfl rfl rfl) (da_cons (d_name (pv 1)) da_nil) (fun ds st h => hlen_opposite ds st h) (fun t hx ha => pe_callS (ok_opposite T) (hr.mono (by decide)) rfl ( T.g_opposite) ( T.f_opposite.kp) ( T.b_opposite) hx ha)))))
theorem ok_unit_power (T : Top P G mg a) : FnOk P w G.K mg base (L2N.CX P w) 5 a.a_unit_power a.d_unit_power (["number", "unit", "often"] : List Str) (spM G 3 (m_unit_power)) := by
  exact fn_ok (n := 3) (k := 4) T.f_unit_power sc_unit_power rfl fun cdv A outer s H E hr => (ds_cons (ds_expr (d_fn (ok_need_unit T) (L2N.takes_of rfl rfl rfl rfl) (da_cons (d_name (pv 0)) (da_cons (d_name (pv 1)) da_nil)) (fun ds st h => hlen_need_unit ds st h) (fun t hx ha => pe_callS (ok_need_unit T) (hr.mono (by decide)) rfl ( T.g_need_unit) ( T.f_need_unit.kp) ( T.b_need_unit) hx ha)))
  (ds_cons (ds_expr (d_fn (ok_need_whole T) (L2N.takes_of rfl rfl rfl rfl) (da_cons (d_name (pv 2)) (da_cons (d_un o_neg (d_globI rfl T.k_OFTEN)) (da_cons (d_globI rfl T.k_OFTEN) da_nil))) (fun ds st h => hlen_need_whole ds st h) (fun t hx ha => pe_callS (ok_need_whole T) (hr.mono (by decide)) rfl ( T.g_need_whole) ( T.f_need_whole.kp) ( T.b_need_whole) hx ha)))
  (ds_cons (ds_asg (d_fn (ok_raised T) (L2N.takes_of rfl rfl rfl rfl) (da_cons (d_name (pv 0)) (da_cons (d_ifExp (d_cmpT (o_ge) (d_name (pv 2)) d_int (nomark _)) (d_name (pv 1)) (d_fn (ok_back T) (L2N.takes_of rfl rfl rfl rfl) (da_cons (d_name (pv 0)) (da_cons (d_name (pv 1)) da_nil)) (fun ds st h => hlen_back ds st h) (fun t hx ha => pe_callS (ok_back T) (hr.mono (by decide)) rfl ( T.g_back) ( T.f_back.kp) ( T.b_back) hx ha))) (da_cons (d_callB (c_abs) rfl T.n_abs (by decide +kernel) (da_cons (d_name (pv 2)) da_nil) (fun r t h1 h2 => pe_callB h1 rfl T.n_abs (by decide +kernel) h2)) (da_cons (d_fn0 (ok_great T) (L2N.takes_of rfl rfl rfl rfl) (hr.mono (by decide)) rfl ( T.g_great) ( T.f_great.kp) ( T.b_great) (fun ds st h => hlen_great ds st h)) da_nil)))) (fun ds st h => hlen_raised ds st h) (fun t hx ha => pe_callS (ok_raised T) (hr.mono (by decide)) rfl ( T.g_raised) ( T.f_raised.kp) ( T.b_raised) hx ha)) (dg_name (i := 3) sc_unit_power.nd rfl (by first | exact Or.inl rfl | exact Or.inr rfl)) (fun te g h1 h2 => ps_asg h1 h2))
  (ds_cons (ds_if (d_cmpT (o_isN) (d_name (pv 3)) d_non (nomark _)) (ds_one (ds_raiseL T.lcE rfl (L2N.takes_of rfl rfl rfl rfl) (pmk_limC (k := 0) T.oex T.lim T.n_super T.htop (hr.mono (by decide)) rfl T.cg_TooMany (da_cons (d_globI rfl T.k_DIGITS) da_nil)))) ds_nil)
  (ds_one (ds_ret (d_name (pv 3))))))))
theorem ok_is_above_one (T : Top P G mg a) : FnOk P w G.K mg base (L2N.CX P w) 5 a.a_is_above_one a.d_is_above_one (["number", "unit"] : List Str) (spM G 2 (m_is_above_one)) := by
  exact fn_ok (n := 2) (k := 4) T.f_is_above_one sc_is_above_one rfl fun cdv A outer s H E hr => (ds_cons (ds_expr (d_fn (ok_need_unit T) (L2N.takes_of rfl rfl rfl rfl) (da_cons (d_name (pv 0)) (da_cons (d_name (pv 1)) da_nil)) (fun ds st h => hlen_need_unit ds st h) (fun t hx ha => pe_callS (ok_need_unit T) (hr.mono (by decide)) rfl ( T.g_need_unit) ( T.f_need_unit.kp) ( T.b_need_unit) hx ha)))
  (ds_cons (ds_expr (d_fn (ok_need_free T) (L2N.takes_of rfl rfl rfl rfl) (da_cons (d_name (pv 0)) da_nil) (fun ds st h => hlen_need_free ds st h) (fun t hx ha => pe_callS (ok_need_free T) (hr.mono (by decide)) rfl ( T.g_need_free) ( T.f_need_free.kp) ( T.b_need_free) hx ha)))
  (ds_one (ds_ret (d_fn (ok_is_above T) (L2N.takes_of rfl rfl rfl rfl) (da_cons (d_name (pv 1)) da_nil) (fun ds st h => hlen_is_above ds st h) (fun t hx ha => pe_callS (ok_is_above T) (hr.mono (by decide)) rfl ( T.g_is_above) ( T.f_is_above.kp) ( T.b_is_above) hx ha))))))
theorem held (T : Top P G mg a) : ∀ m n φ, ftab m = some (n, φ) → HeldM P w G.K mg base 5 G m n φ := by
  intro m n φ h
  unfold ftab at h
  split at h
  · cases h
    exact ⟨⟨a.d_is_unit, _, T.fa_is_unit ▸ FnOk.mono (ok_is_unit T) (by decide), T.fa_is_unit ▸ T.f_is_unit.kp, T.b_is_unit⟩, fun ds st q => hlen_is_unit ds st q⟩
  · cases h
    exact ⟨⟨a.d_unit_norm, _, T.fa_unit_norm ▸ FnOk.mono (ok_unit_norm T) (by decide), T.fa_unit_norm ▸ T.f_unit_norm.kp, T.b_unit_norm⟩, fun ds st q => hlen_unit_norm ds st q⟩
  · cases h
    exact ⟨⟨a.d_unit_product, _, T.fa_unit_product ▸ FnOk.mono (ok_unit_product T) (by decide), T.fa_unit_product ▸ T.f_unit_product.kp, T.b_unit_product⟩, fun ds st q => hlen_unit_product ds st q⟩
  · cases h
    exact ⟨⟨a.d_unit_back, _, T.fa_unit_back ▸ FnOk.mono (ok_unit_back T) (by decide), T.fa_unit_back ▸ T.f_unit_back.kp, T.b_unit_back⟩, fun ds st q => hlen_unit_back ds st q⟩
  · cases h
    exact ⟨⟨a.d_unit_opposite, _, T.fa_unit_opposite ▸ FnOk.mono (ok_unit_opposite T) (by decide), T.fa_unit_opposite ▸ T.f_unit_opposite.kp, T.b_unit_opposite⟩, fun ds st q => hlen_unit_opposite ds st q⟩
  · cases h
    exact ⟨⟨a.d_unit_power, _, T.fa_unit_power ▸ FnOk.mono (ok_unit_power T) (by decide), T.fa_unit_power ▸ T.f_unit_power.kp, T.b_unit_power⟩, fun ds st q => hlen_unit_power ds st q⟩
  · cases h
    exact ⟨⟨a.d_is_above_one, _, T.fa_is_above_one ▸ FnOk.mono (ok_is_above_one T) (by decide), T.fa_is_above_one ▸ T.f_is_above_one.kp, T.b_is_above_one⟩, fun ds st q => hlen_is_above_one ds st q⟩
  · cases h
theorem ok_law_cup {sn : List Int} (hsn : G.sn = sn) (T : Top P G mg a) : FnOk P w G.K mg base (L2N.CX P w) 1 a.a_law_cup a.d_law_cup (["script"] : List Str) (spM G 1 (m_law_cup sn)) := by
  subst hsn
  exact fn_ok (n := 1) (k := 0) T.f_law_cup sc_law_cup rfl fun cdv A outer s H E hr => (ds_cons (ds_asg (d_callB (c_abs) rfl T.n_abs (by decide +kernel) (da_cons (d_ix rfl (d_bin (o_add rfl) (d_callTy (c_list rfl) rfl T.n_list (by decide +kernel) (da_cons (d_name (pv 0)) da_nil) (fun r t h1 h2 => pe_callTy h1 rfl T.n_list (by decide +kernel) h2)) (d_lst (da_cons d_int da_nil))) d_int (fun _ _ => rfl)) da_nil) (fun r t h1 h2 => pe_callB h1 rfl T.n_abs (by decide +kernel) h2)) (dg_name (i := 1) sc_law_cup.nd rfl (by first | exact Or.inl rfl | exact Or.inr rfl)) (fun te g h1 h2 => ps_asg h1 h2))
  (ds_one (ds_ret (d_lst (da_cons (d_ifExp (d_cmpT (o_ge) (d_name (pv 1)) (d_bin (o_pow) d_int d_int) (nomark _)) (d_bin (o_div) (d_name (pv 1)) d_int) d_int) (da_cons (d_bin (o_mod) (d_callTy (c_int) rfl T.n_int (by decide +kernel) (da_cons (d_bin (o_add rfl) (d_bin (o_mul rfl) (d_name (pv 1)) d_int) d_int) da_nil) (fun r t h1 h2 => pe_callTy h1 rfl T.n_int (by decide +kernel) h2)) d_int) da_nil))))))
theorem ok_law_roll (T : Top P G mg a) : FnOk P w G.K mg base (L2N.CX P w) 1 a.a_law_roll a.d_law_roll (["cup", "many"] : List Str) (spM G 2 (m_law_roll)) := by
  exact fn_ok (n := 2) (k := 0) T.f_law_roll sc_law_roll rfl fun cdv A outer s H E hr => (ds_cons (ds_if (d_cmpT (o_gt) (d_ix rfl (d_name (pv 0)) d_int (fun _ _ => rfl)) d_int (nomark _)) (ds_cons (ds_asg (d_bin (o_mod) (d_callTy (c_int) rfl T.n_int (by decide +kernel) (da_cons (d_ix rfl (d_name (pv 0)) d_int (fun _ _ => rfl)) da_nil) (fun r t h1 h2 => pe_callTy h1 rfl T.n_int (by decide +kernel) h2)) (d_name (pv 1))) (dg_name (i := 2) sc_law_roll.nd rfl (by first | exact Or.inl rfl | exact Or.inr rfl)) (fun te g h1 h2 => ps_asg h1 h2))
  (ds_cons (ds_set (d_bin (o_div) (d_ix rfl (d_name (pv 0)) d_int (fun _ _ => rfl)) (d_name (pv 1))) (d_name (pv 0)) d_int (fun te to ti h1 h2 h3 => ps_asg h1 (pg_sub h2 h3 set_list)))
  (ds_one (ds_ret (d_name (pv 2)))))) ds_nil)
  (ds_cons (ds_set (d_bin (o_mod) (d_callTy (c_int) rfl T.n_int (by decide +kernel) (da_cons (d_bin (o_add rfl) (d_bin (o_mul rfl) (d_ix rfl (d_name (pv 0)) d_int (fun _ _ => rfl)) d_int) d_int) da_nil) (fun r t h1 h2 => pe_callTy h1 rfl T.n_int (by decide +kernel) h2)) d_int) (d_name (pv 0)) d_int (fun te to ti h1 h2 h3 => ps_asg h1 (pg_sub h2 h3 set_list)))
  (ds_one (ds_ret (d_bin (o_mod) (d_callTy (c_int) rfl T.n_int (by decide +kernel) (da_cons (d_bin (o_div) (d_ix rfl (d_name (pv 0)) d_int (fun _ _ => rfl)) d_int) da_nil) (fun r t h1 h2 => pe_callTy h1 rfl T.n_int (by decide +kernel) h2)) (d_name (pv 1)))))))
theorem ok_law_some (T : Top P G mg a) : FnOk P w G.K mg base (L2N.CX P w) 2 a.a_law_some a.d_law_some (["cup", "things"] : List Str) (spM G 2 (m_law_some)) := by
  exact fn_ok (n := 2) (k := 1) T.f_law_some sc_law_some rfl fun cdv A outer s H E hr => (ds_one (ds_ret (d_ix rfl (d_name (pv 1)) (d_fn (ok_law_roll T) (L2N.takes_of rfl rfl rfl rfl) (da_cons (d_name (pv 0)) (da_cons (d_callB (c_len rfl) rfl T.n_len (by decide +kernel) (da_cons (d_name (pv 1)) da_nil) (fun r t h1 h2 => pe_callB h1 rfl T.n_len (by decide +kernel) h2)) da_nil)) (fun ds st h => hlen_law_roll ds st h) (fun t hx ha => pe_callS (ok_law_roll T) (hr.mono (by decide)) rfl ( T.g_law_roll) ( T.f_law_roll.kp) ( T.b_law_roll) hx ha)) (fun _ _ => rfl))))
theorem ok_law_sort (T : Top P G mg a) : FnOk P w G.K mg base (L2N.CX P w) 1 a.a_law_sort a.d_law_sort (["value"] : List Str) (spM G 1 (m_law_sort)) := by
  exact fn_ok (n := 1) (k := 0) T.f_law_sort sc_law_sort rfl fun cdv A outer s H E hr => (ds_cons (ds_if (PW.pt (dw_or (d_cmpT (o_isN) (d_name (pv 0)) d_non (nomark _)) (dw_or1 (d_truth rfl (d_callB (c_isi rfl) rfl T.n_isinstance (by decide +kernel) (da_cons (d_name (pv 0)) (da_cons (d_type (k := 1) rfl T.n_bool (by decide +kernel)) da_nil)) (fun r t h1 h2 => pe_callB h1 rfl T.n_isinstance (by decide +kernel) h2)))))) (ds_one (ds_ret (d_ifExp (d_cmpT (o_isN) (d_name (pv 0)) d_non (nomark _)) d_int d_int))) ds_nil)
  (ds_cons (ds_if (PW.pt (dw_or (d_truth rfl (d_callB (c_isi rfl) rfl T.n_isinstance (by decide +kernel) (da_cons (d_name (pv 0)) (da_cons (d_type (k := 0) rfl T.n_int (by decide +kernel)) da_nil)) (fun r t h1 h2 => pe_callB h1 rfl T.n_isinstance (by decide +kernel) h2))) (dw_or1 (d_truth rfl (d_callB (c_isi rfl) rfl T.n_isinstance (by decide +kernel) (da_cons (d_name (pv 0)) (da_cons (d_type (k := 2) rfl T.n_str (by decide +kernel)) da_nil)) (fun r t h1 h2 => pe_callB h1 rfl T.n_isinstance (by decide +kernel) h2)))))) (ds_one (ds_ret (d_ifExp (d_truth rfl (d_callB (c_isi rfl) rfl T.n_isinstance (by decide +kernel) (da_cons (d_name (pv 0)) (da_cons (d_type (k := 0) rfl T.n_int (by decide +kernel)) da_nil)) (fun r t h1 h2 => pe_callB h1 rfl T.n_isinstance (by decide +kernel) h2))) d_int d_int))) ds_nil)
  (ds_one (ds_ret (d_ifExp (d_truth rfl (d_callB (c_isi rfl) rfl T.n_isinstance (by decide +kernel) (da_cons (d_name (pv 0)) (da_cons (d_type (k := 3) rfl T.n_tuple (by decide +kernel)) da_nil)) (fun r t h1 h2 => pe_callB h1 rfl T.n_isinstance (by decide +kernel) h2))) d_int (d_ifExp (d_truth rfl (d_callB (c_isi rfl) rfl T.n_isinstance (by decide +kernel) (da_cons (d_name (pv 0)) (da_cons (d_type (k := 4) rfl T.n_list (by decide +kernel)) da_nil)) (fun r t h1 h2 => pe_callB h1 rfl T.n_isinstance (by decide +kernel) h2))) d_int d_int))))))
theorem ok_law_like (T : Top P G mg a) : ∀ n, FnOk P w G.K mg base (L2N.CX P w) (2 + n) a.a_law_like a.d_law_like (["one", "other"] : List Str) (spM G 2 (m_law_like n))
  | 0 => fnOk_bad (fun _ _ => rfl)
  | n + 1 => by
    have ih := ok_law_like T n
    exact fn_ok (n := 2) (k := 2 + n) T.f_law_like sc_law_like rfl fun cdv A outer s H E hr => (ds_cons (ds_asg (d_fn (ok_law_sort T) (L2N.takes_of rfl rfl rfl rfl) (da_cons (d_name (pv 1)) da_nil) (fun ds st h => hlen_law_sort ds st h) (fun t hx ha => pe_callS (ok_law_sort T) (hr.mono (by omega)) rfl ( T.g_law_sort) ( T.f_law_sort.kp) ( T.b_law_sort) hx ha)) (dg_name (i := 2) sc_law_like.nd rfl (by first | exact Or.inl rfl | exact Or.inr rfl)) (fun te g h1 h2 => ps_asg h1 h2))
  (ds_cons (ds_if (PW.pt (dw_or (d_cmpT (o_ne rfl hr.units) (d_fn (ok_law_sort T) (L2N.takes_of rfl rfl rfl rfl) (da_cons (d_name (pv 0)) da_nil) (fun ds st h => hlen_law_sort ds st h) (fun t hx ha => pe_callS (ok_law_sort T) (hr.mono (by omega)) rfl ( T.g_law_sort) ( T.f_law_sort.kp) ( T.b_law_sort) hx ha)) (d_name (pv 2)) (nomark _)) (dw_or1 (d_cmpT (o_eq rfl hr.units) (d_name (pv 2)) d_int (nomark _))))) (ds_one (ds_ret d_bl)) ds_nil)
  (ds_cons (ds_if (d_cmpT (o_in rfl) (d_name (pv 2)) (d_tup (da_cons d_int (da_cons d_int da_nil))) (by rfl)) (ds_one (ds_ret (d_and (d_cmp (o_eq rfl hr.units) (d_callB (c_len rfl) rfl T.n_len (by decide +kernel) (da_cons (d_name (pv 0)) da_nil) (fun r t h1 h2 => pe_callB h1 rfl T.n_len (by decide +kernel) h2)) (d_callB (c_len rfl) rfl T.n_len (by decide +kernel) (da_cons (d_name (pv 1)) da_nil) (fun r t h1 h2 => pe_callB h1 rfl T.n_len (by decide +kernel) h2)) (nomark _)) (d_one (d_cmp (o_eq rfl hr.units) (d_lc (own := [("first", 3), ("second", 4)]) (t := (.tp (.cons (.nm 3) (.cons (.nm 4) .nil)))) (by rfl) (di_zip rfl (fun ta h => RZ.pi_zipA rfl T.n_zip h) (da_cons (d_name (pv 0)) (da_cons (d_name (pv 1)) da_nil))) (fun s H C cl fp => (dg_tup rfl (dgs_cons (dg_name (i := 3) sc_law_like.nd rfl (by first | exact Or.inl rfl | exact Or.inr rfl)) (dgs_cons (dg_name (i := 4) sc_law_like.nd rfl (by first | exact Or.inl rfl | exact Or.inr rfl)) dgs_nil (fun t u h1 h2 => pgs_cons h1 h2)) (fun t u h1 h2 => pgs_cons h1 h2)) (fun t h1 => pg_tup rfl h1))) (fun s H C cl fp => (dts_one (dt_not (d_truth rfl (d_fn (ih) takesN (da_cons (d_name (pv 3)) (da_cons (d_name (pv 4)) da_nil)) (fun ds st h => hlen_law_like ds st h) (fun t hx ha => pe_callS (ih) (hr.mono (by omega)) rfl ( T.g_law_like) ( T.f_law_like.kp) ( T.b_law_like) hx ha)))))) (fun s H C cl fp => d_int) (fun wi g tt te h1 h2 h3 h4 => pe_lc rfl sc_law_like.nd h1 (blkOk_by (show blkC (["one", "other", "sort", "first", "second"] : List Str) (defScope s_law_like) _ _ = true by decide +kernel)) h2 h3 h4)) (d_lst da_nil) (nomark _)))))) ds_nil)
  (ds_one (ds_ret (d_cmp (o_eq rfl hr.units) (d_name (pv 0)) (d_name (pv 1)) (nomark _)))))))
theorem ok_law_root (T : Top P G mg a) : FnOk P w G.K mg base (L2N.CX P w) 1 a.a_law_root a.d_law_root (["value"] : List Str) (spM G 1 (m_law_root)) := by
  exact fn_ok (n := 1) (k := 0) T.f_law_root sc_law_root rfl fun cdv A outer s H E hr => (ds_cons (ds_asg (d_tup (da_cons d_int (da_cons d_int da_nil))) (dg_tup rfl (dgs_cons (dg_name (i := 1) sc_law_root.nd rfl (by first | exact Or.inl rfl | exact Or.inr rfl)) (dgs_cons (dg_name (i := 2) sc_law_root.nd rfl (by first | exact Or.inl rfl | exact Or.inr rfl)) dgs_nil (fun t u h1 h2 => pgs_cons h1 h2)) (fun t u h1 h2 => pgs_cons h1 h2)) (fun t h1 => pg_tup rfl h1)) (fun te g h1 h2 => ps_asg h1 h2))
  (ds_cons (ds_for (di_range1 (fun ta h => pi_range1 rfl T.n_range h) (da_cons (d_bits (d_name (pv 0)) (fun to h1 => pe_bits h1)) da_nil) (len_cons len_nil)) (dg_name (i := 3) sc_law_root.nd rfl (by first | exact Or.inl rfl | exact Or.inr rfl)) (ds_one (ds_asg (d_bin (o_mul rfl) (d_name (pv 2)) d_int) (dg_name (i := 2) sc_law_root.nd rfl (by first | exact Or.inl rfl | exact Or.inr rfl)) (fun te g h1 h2 => ps_asg h1 h2))) (fun wi g tb h1 h2 h3 => ps_for (passes_of rfl) rfl h1 h2 h3))
  (ds_cons (ds_for (di_range1 (fun ta h => pi_range1 rfl T.n_range h) (da_cons (d_bin (o_add rfl) (d_bits (d_name (pv 0)) (fun to h1 => pe_bits h1)) d_int) da_nil) (len_cons len_nil)) (dg_name (i := 3) sc_law_root.nd rfl (by first | exact Or.inl rfl | exact Or.inr rfl)) (ds_cons (ds_asg (d_bin (o_div) (d_bin (o_add rfl) (d_name (pv 1)) (d_name (pv 2))) d_int) (dg_name (i := 4) sc_law_root.nd rfl (by first | exact Or.inl rfl | exact Or.inr rfl)) (fun te g h1 h2 => ps_asg h1 h2))
  (ds_one (ds_if (d_cmpT (o_le) (d_bin (o_mul rfl) (d_name (pv 4)) (d_name (pv 4))) (d_name (pv 0)) (nomark _)) (ds_one (ds_asg (d_name (pv 4)) (dg_name (i := 1) sc_law_root.nd rfl (by first | exact Or.inl rfl | exact Or.inr rfl)) (fun te g h1 h2 => ps_asg h1 h2))) (ds_one (ds_asg (d_name (pv 4)) (dg_name (i := 2) sc_law_root.nd rfl (by first | exact Or.inl rfl | exact Or.inr rfl)) (fun te g h1 h2 => ps_asg h1 h2)))))) (fun wi g tb h1 h2 h3 => ps_for (passes_of rfl) rfl h1 h2 h3))
  (ds_one (ds_ret (d_name (pv 1)))))))
theorem ok_law_is_unit (T : Top P G mg a) : FnOk P w G.K mg base (L2N.CX P w) 2 a.a_law_is_unit a.d_law_is_unit (["number", "value"] : List Str) (spM G 2 (m_law_is_unit)) := by
  exact fn_ok (n := 2) (k := 1) T.f_law_is_unit sc_law_is_unit rfl fun cdv A outer s H E hr => (ds_cons (ds_if (PW.pt (dw_or (d_cmpT (o_ne rfl hr.units) (d_fn (ok_law_sort T) (L2N.takes_of rfl rfl rfl rfl) (da_cons (d_name (pv 1)) da_nil) (fun ds st h => hlen_law_sort ds st h) (fun t hx ha => pe_callS (ok_law_sort T) (hr.mono (by decide)) rfl ( T.g_law_sort) ( T.f_law_sort.kp) ( T.b_law_sort) hx ha)) d_int (nomark _)) (dw_or (d_cmpT (o_ne rfl hr.units) (d_callB (c_len rfl) rfl T.n_len (by decide +kernel) (da_cons (d_name (pv 1)) da_nil) (fun r t h1 h2 => pe_callB h1 rfl T.n_len (by decide +kernel) h2)) d_int (nomark _)) (dw_or1 (d_cmpT (o_ne rfl hr.units) (d_lc (own := [("own", 2)]) (t := (.nm 2)) (by rfl) (di_of rfl (d_name (pv 1))) (fun s H C cl fp => (dg_name (i := 2) sc_law_is_unit.nd rfl (by first | exact Or.inl rfl | exact Or.inr rfl))) (fun s H C cl fp => (dts_one (d_cmpT (o_ne rfl hr.units) (d_fn (ok_law_sort T) takesN (da_cons (d_name (pv 2)) da_nil) (fun ds st h => hlen_law_sort ds st h) (fun t hx ha => pe_callS (ok_law_sort T) (hr.mono (by decide)) rfl ( T.g_law_sort) ( T.f_law_sort.kp) ( T.b_law_sort) hx ha)) d_int (nomark _)))) (fun s H C cl fp => (d_name (pv 2))) (fun wi g tt te h1 h2 h3 h4 => pe_lc rfl sc_law_is_unit.nd h1 (blkOk_by (show blkC (["number", "value", "own"] : List Str) (defScope s_law_is_unit) _ _ = true by decide +kernel)) h2 h3 h4)) (d_lst da_nil) (nomark _)))))) (ds_one (ds_ret d_bl)) ds_nil)
  (ds_one (ds_ret (d_cmp (o_in rfl) (d_bin (o_sub) (d_bin (o_pow) (d_ix rfl (d_name (pv 1)) d_int (fun _ _ => rfl)) d_int) (d_bin (o_mul rfl) (d_name (pv 0)) (d_bin (o_pow) (d_ix rfl (d_name (pv 1)) d_int (fun _ _ => rfl)) d_int))) (d_tup (da_cons d_int (da_cons (d_un o_neg d_int) da_nil))) (by rfl)))))
theorem ok_law_norm (T : Top P G mg a) : FnOk P w G.K mg base (L2N.CX P w) 1 a.a_law_norm a.d_law_norm (["number", "unit"] : List Str) (spM G 2 (m_law_norm)) := by
  exact fn_ok (n := 2) (k := 0) T.f_law_norm sc_law_norm rfl fun cdv A outer s H E hr => (ds_one (ds_ret (d_ifExp (d_cmpT (o_eq rfl hr.units) (d_bin (o_sub) (d_bin (o_pow) (d_ix rfl (d_name (pv 1)) d_int (fun _ _ => rfl)) d_int) (d_bin (o_mul rfl) (d_name (pv 0)) (d_bin (o_pow) (d_ix rfl (d_name (pv 1)) d_int (fun _ _ => rfl)) d_int))) d_int (nomark _)) d_int (d_un o_neg d_int))))
theorem ok_law_times (T : Top P G mg a) : FnOk P w G.K mg base (L2N.CX P w) 1 a.a_law_times a.d_law_times (["number", "one", "other"] : List Str) (spM G 3 (m_law_times)) := by
  exact fn_ok (n := 3) (k := 0) T.f_law_times sc_law_times rfl fun cdv A outer s H E hr => (ds_cons (ds_asg (d_bin (o_mod) (d_callTy (c_int) rfl T.n_int (by decide +kernel) (da_cons (d_name (pv 0)) da_nil) (fun r t h1 h2 => pe_callTy h1 rfl T.n_int (by decide +kernel) h2)) d_int) (dg_name (i := 3) sc_law_times.nd rfl (by first | exact Or.inl rfl | exact Or.inr rfl)) (fun te g h1 h2 => ps_asg h1 h2))
  (ds_cons (PS.imp (ps_par (i := 4) (j := 5) rfl sc_law_times.nd rfl rfl (by decide) rfl rfl (da_cons (d_bin (o_div) (d_bin (o_sub) (d_ix rfl (d_name (pv 1)) d_int (fun _ _ => rfl)) (d_bin (o_mul rfl) (d_name (pv 3)) (d_ix rfl (d_name (pv 1)) d_int (fun _ _ => rfl)))) d_int) (da_cons (d_bin (o_div) (d_bin (o_sub) (d_ix rfl (d_name (pv 2)) d_int (fun _ _ => rfl)) (d_bin (o_mul rfl) (d_name (pv 3)) (d_ix rfl (d_name (pv 2)) d_int (fun _ _ => rfl)))) d_int) da_nil)) (by rfl)) fun Dn σ H h => par_k h)
  (ds_cons (ds_asg (d_bin (o_add rfl) (d_bin (o_mul rfl) (d_name (pv 4)) (d_name (pv 5))) (d_bin (o_mul rfl) (d_bin (o_mul rfl) (d_ix rfl (d_name (pv 1)) d_int (fun _ _ => rfl)) (d_ix rfl (d_name (pv 2)) d_int (fun _ _ => rfl))) (d_bin (o_div) (d_bin (o_sub) (d_name (pv 0)) (d_name (pv 3))) d_int))) (dg_name (i := 6) sc_law_times.nd rfl (by first | exact Or.inl rfl | exact Or.inr rfl)) (fun te g h1 h2 => ps_asg h1 h2))
  (ds_cons (ds_asg (d_bin (o_add rfl) (d_bin (o_add rfl) (d_bin (o_mul rfl) (d_name (pv 4)) (d_ix rfl (d_name (pv 2)) d_int (fun _ _ => rfl))) (d_bin (o_mul rfl) (d_name (pv 5)) (d_ix rfl (d_name (pv 1)) d_int (fun _ _ => rfl)))) (d_bin (o_mul rfl) (d_bin (o_mul rfl) (d_name (pv 3)) (d_ix rfl (d_name (pv 1)) d_int (fun _ _ => rfl))) (d_ix rfl (d_name (pv 2)) d_int (fun _ _ => rfl)))) (dg_name (i := 7) sc_law_times.nd rfl (by first | exact Or.inl rfl | exact Or.inr rfl)) (fun te g h1 h2 => ps_asg h1 h2))
  (ds_one (ds_ret (d_tup (da_cons (d_bin (o_add rfl) (d_bin (o_mul rfl) d_int (d_name (pv 6))) (d_bin (o_mul rfl) (d_name (pv 3)) (d_name (pv 7)))) (da_cons (d_name (pv 7)) da_nil)))))))))
theorem ok_law_power (T : Top P G mg a) : FnOk P w G.K mg base (L2N.CX P w) 2 a.a_law_power a.d_law_power (["number", "unit", "often"] : List Str) (spM G 3 (m_law_power)) := by
  exact fn_ok (n := 3) (k := 1) T.f_law_power sc_law_power rfl fun cdv A outer s H E hr => (ds_cons (ds_asg (d_name (pv 1)) (dg_name (i := 3) sc_law_power.nd rfl (by first | exact Or.inl rfl | exact Or.inr rfl)) (fun te g h1 h2 => ps_asg h1 h2))
  (ds_cons (ds_if (d_cmpT (o_lt) (d_name (pv 2)) d_int (nomark _)) (ds_one (ds_asg (d_ifExp (d_cmpT (o_eq rfl hr.units) (d_fn (ok_law_norm T) (L2N.takes_of rfl rfl rfl rfl) (da_cons (d_name (pv 0)) (da_cons (d_name (pv 1)) da_nil)) (fun ds st h => hlen_law_norm ds st h) (fun t hx ha => pe_callS (ok_law_norm T) (hr.mono (by decide)) rfl ( T.g_law_norm) ( T.f_law_norm.kp) ( T.b_law_norm) hx ha)) d_int (nomark _)) (d_tup (da_cons (d_ix rfl (d_name (pv 1)) d_int (fun _ _ => rfl)) (da_cons (d_un o_neg (d_ix rfl (d_name (pv 1)) d_int (fun _ _ => rfl))) da_nil))) (d_tup (da_cons (d_un o_neg (d_ix rfl (d_name (pv 1)) d_int (fun _ _ => rfl))) (da_cons (d_ix rfl (d_name (pv 1)) d_int (fun _ _ => rfl)) da_nil)))) (dg_name (i := 3) sc_law_power.nd rfl (by first | exact Or.inl rfl | exact Or.inr rfl)) (fun te g h1 h2 => ps_asg h1 h2))) ds_nil)
  (ds_cons (ds_asg (d_tup (da_cons d_int (da_cons d_int da_nil))) (dg_name (i := 4) sc_law_power.nd rfl (by first | exact Or.inl rfl | exact Or.inr rfl)) (fun te g h1 h2 => ps_asg h1 h2))
  (ds_cons (ds_for (di_range1 (fun ta h => pi_range1 rfl T.n_range h) (da_cons (d_callB (c_abs) rfl T.n_abs (by decide +kernel) (da_cons (d_name (pv 2)) da_nil) (fun r t h1 h2 => pe_callB h1 rfl T.n_abs (by decide +kernel) h2)) da_nil) (len_cons len_nil)) (dg_name (i := 5) sc_law_power.nd rfl (by first | exact Or.inl rfl | exact Or.inr rfl)) (ds_one (ds_asg (d_fn (ok_law_times T) (L2N.takes_of rfl rfl rfl rfl) (da_cons (d_name (pv 0)) (da_cons (d_name (pv 4)) (da_cons (d_name (pv 3)) da_nil))) (fun ds st h => hlen_law_times ds st h) (fun t hx ha => pe_callS (ok_law_times T) (hr.mono (by decide)) rfl ( T.g_law_times) ( T.f_law_times.kp) ( T.b_law_times) hx ha)) (dg_name (i := 4) sc_law_power.nd rfl (by first | exact Or.inl rfl | exact Or.inr rfl)) (fun te g h1 h2 => ps_asg h1 h2))) (fun wi g tb h1 h2 h3 => ps_for (passes_of rfl) rfl h1 h2 h3))
  (ds_one (ds_ret (d_name (pv 4))))))))
theorem ok_law_first (T : Top P G mg a) : FnOk P w G.K mg base (L2N.CX P w) 2 a.a_law_first a.d_law_first (["number"] : List Str) (spM G 1 (m_law_first)) := by
  exact fn_ok (n := 1) (k := 1) T.f_law_first sc_law_first rfl fun cdv A outer s H E hr => (ds_cons (ds_for (di_range2 (fun ta h => pi_range2 rfl T.n_range h) (da_cons d_int (da_cons d_int da_nil)) (len_cons (len_cons len_nil))) (dg_name (i := 1) sc_law_first.nd rfl (by first | exact Or.inl rfl | exact Or.inr rfl)) (ds_one (ds_for (di_of rfl (d_tup (da_cons (d_un o_neg d_int) (da_cons d_int da_nil)))) (dg_name (i := 2) sc_law_first.nd rfl (by first | exact Or.inl rfl | exact Or.inr rfl)) (ds_cons (ds_asg (d_bin (o_add rfl) (d_bin (o_mul rfl) (d_bin (o_mul rfl) (d_name (pv 0)) (d_name (pv 1))) (d_name (pv 1))) (d_name (pv 2))) (dg_name (i := 3) sc_law_first.nd rfl (by first | exact Or.inl rfl | exact Or.inr rfl)) (fun te g h1 h2 => ps_asg h1 h2))
  (ds_one (ds_if (PW.pt (dw_and (d_cmpT (o_gt) (d_name (pv 3)) d_int (nomark _)) (dw_and1 (d_cmpT (o_eq rfl hr.units) (d_bin (o_pow) (d_fn (ok_law_root T) (L2N.takes_of rfl rfl rfl rfl) (da_cons (d_name (pv 3)) da_nil) (fun ds st h => hlen_law_root ds st h) (fun t hx ha => pe_callS (ok_law_root T) (hr.mono (by decide)) rfl ( T.g_law_root) ( T.f_law_root.kp) ( T.b_law_root) hx ha)) d_int) (d_name (pv 3)) (nomark _))))) (ds_one (ds_ret (d_tup (da_cons (d_fn (ok_law_root T) (L2N.takes_of rfl rfl rfl rfl) (da_cons (d_name (pv 3)) da_nil) (fun ds st h => hlen_law_root ds st h) (fun t hx ha => pe_callS (ok_law_root T) (hr.mono (by decide)) rfl ( T.g_law_root) ( T.f_law_root.kp) ( T.b_law_root) hx ha)) (da_cons (d_name (pv 1)) da_nil))))) ds_nil))) (fun wi g tb h1 h2 h3 => ps_for (passes_of rfl) rfl h1 h2 h3))) (fun wi g tb h1 h2 h3 => ps_for (passes_of rfl) rfl h1 h2 h3))
  (ds_one (ds_ret d_non)))
theorem ok_law_number (T : Top P G mg a) : FnOk P w G.K mg base (L2N.CX P w) 3 a.a_law_number a.d_law_number (["cup"] : List Str) (spM G 1 (m_law_number)) := by
  exact fn_ok (n := 1) (k := 2) T.f_law_number sc_law_number rfl fun cdv A outer s H E hr => (ds_cons (ds_asg (d_lst (da_cons d_int (da_cons d_int (da_cons d_int (da_cons d_int (da_cons d_int (da_cons d_int (da_cons d_int (da_cons d_int (da_cons d_int (da_cons d_int (da_cons d_int (da_cons d_int (da_cons d_int (da_cons d_int (da_cons d_int (da_cons d_int (da_cons d_int (da_cons d_int (da_cons d_int (da_cons d_int (da_cons d_int (da_cons d_int (da_cons d_int (da_cons d_int (da_cons d_int (da_cons d_int (da_cons d_int (da_cons d_int (da_cons d_int da_nil)))))))))))))))))))))))))))))) (dg_name (i := 1) sc_law_number.nd rfl (by first | exact Or.inl rfl | exact Or.inr rfl)) (fun te g h1 h2 => ps_asg h1 h2))
  (ds_one (ds_ret (d_fn (ok_law_some T) (L2N.takes_of rfl rfl rfl rfl) (da_cons (d_name (pv 0)) (da_cons (d_bin (o_add rfl) (d_bin (o_mul rfl) (d_lst (da_cons (d_fn (ok_law_some T) (L2N.takes_of rfl rfl rfl rfl) (da_cons (d_name (pv 0)) (da_cons (d_name (pv 1)) da_nil)) (fun ds st h => hlen_law_some ds st h) (fun t hx ha => pe_callS (ok_law_some T) (hr.mono (by decide)) rfl ( T.g_law_some) ( T.f_law_some.kp) ( T.b_law_some) hx ha)) da_nil)) d_int) (d_lst (da_cons (d_fn (ok_law_some T) (L2N.takes_of rfl rfl rfl rfl) (da_cons (d_name (pv 0)) (da_cons (d_lst (da_cons (d_un o_neg d_int) (da_cons (d_un o_neg d_int) (da_cons (d_un o_neg d_int) (da_cons (d_un o_neg d_int) (da_cons (d_un o_neg d_int) (da_cons (d_un o_neg d_int) (da_cons d_int (da_cons d_int (da_cons d_int (da_cons d_int (da_cons d_int (da_cons d_int da_nil))))))))))))) da_nil)) (fun ds st h => hlen_law_some ds st h) (fun t hx ha => pe_callS (ok_law_some T) (hr.mono (by decide)) rfl ( T.g_law_some) ( T.f_law_some.kp) ( T.b_law_some) hx ha)) da_nil))) da_nil)) (fun ds st h => hlen_law_some ds st h) (fun t hx ha => pe_callS (ok_law_some T) (hr.mono (by decide)) rfl ( T.g_law_some) ( T.f_law_some.kp) ( T.b_law_some) hx ha)))))
theorem ok_law_unit (T : Top P G mg a) : FnOk P w G.K mg base (L2N.CX P w) 3 a.a_law_unit a.d_law_unit (["cup", "number"] : List Str) (spM G 2 (m_law_unit)) := by
  exact fn_ok (n := 2) (k := 2) T.f_law_unit sc_law_unit rfl fun cdv A outer s H E hr => (ds_cons (ds_if (d_cmpT (o_eq rfl hr.units) (d_name (pv 1)) d_int (nomark _)) (ds_one (ds_ret (d_tup (da_cons (d_bin (o_sub) d_int (d_bin (o_mul rfl) d_int (d_fn (ok_law_roll T) (L2N.takes_of rfl rfl rfl rfl) (da_cons (d_name (pv 0)) (da_cons d_int da_nil)) (fun ds st h => hlen_law_roll ds st h) (fun t hx ha => pe_callS (ok_law_roll T) (hr.mono (by decide)) rfl ( T.g_law_roll) ( T.f_law_roll.kp) ( T.b_law_roll) hx ha)))) (da_cons (d_bin (o_sub) (d_fn (ok_law_roll T) (L2N.takes_of rfl rfl rfl rfl) (da_cons (d_name (pv 0)) (da_cons d_int da_nil)) (fun ds st h => hlen_law_roll ds st h) (fun t hx ha => pe_callS (ok_law_roll T) (hr.mono (by decide)) rfl ( T.g_law_roll) ( T.f_law_roll.kp) ( T.b_law_roll) hx ha)) d_int) da_nil))))) ds_nil)
  (ds_cons (ds_if (PW.pt (dw_or (d_cmpT (o_lt) (d_name (pv 1)) d_int (nomark _)) (dw_or1 (d_cmpT (o_eq rfl hr.units) (d_bin (o_pow) (d_fn (ok_law_root T) (L2N.takes_of rfl rfl rfl rfl) (da_cons (d_name (pv 1)) da_nil) (fun ds st h => hlen_law_root ds st h) (fun t hx ha => pe_callS (ok_law_root T) (hr.mono (by decide)) rfl ( T.g_law_root) ( T.f_law_root.kp) ( T.b_law_root) hx ha)) d_int) (d_name (pv 1)) (nomark _))))) (ds_cons (ds_asg (d_lst da_nil) (dg_name (i := 2) sc_law_unit.nd rfl (by first | exact Or.inl rfl | exact Or.inr rfl)) (fun te g h1 h2 => ps_asg h1 h2))
  (ds_cons (ds_for (di_range2 (fun ta h => pi_range2 rfl T.n_range h) (da_cons (d_un o_neg d_int) (da_cons d_int da_nil)) (len_cons (len_cons len_nil))) (dg_name (i := 3) sc_law_unit.nd rfl (by first | exact Or.inl rfl | exact Or.inr rfl)) (ds_one (ds_asg (d_bin (o_add rfl) (d_name (pv 2)) (d_lc (own := [("u", 5)]) (t := (.nm 5)) (by rfl) (di_range2 (fun ta h => pi_range2 rfl T.n_range h) (da_cons (d_un o_neg d_int) (da_cons d_int da_nil)) (len_cons (len_cons len_nil))) (fun s H C cl fp => (dg_name (i := 5) sc_law_unit.nd rfl (by first | exact Or.inl rfl | exact Or.inr rfl))) (fun s H C cl fp => (dts_one (d_truth rfl (d_fn (ok_law_is_unit T) takesN (da_cons (d_name (pv 1)) (da_cons (d_tup (da_cons (d_name (pv 3)) (da_cons (d_name (pv 5)) da_nil))) da_nil)) (fun ds st h => hlen_law_is_unit ds st h) (fun t hx ha => pe_callS (ok_law_is_unit T) (hr.mono (by decide)) rfl ( T.g_law_is_unit) ( T.f_law_is_unit.kp) ( T.b_law_is_unit) hx ha))))) (fun s H C cl fp => (d_tup (da_cons (d_name (pv 3)) (da_cons (d_name (pv 5)) da_nil)))) (fun wi g tt te h1 h2 h3 h4 => pe_lc rfl sc_law_unit.nd h1 (blkOk_by (show blkC (["cup", "number", "some", "t", "found", "u"] : List Str) (defScope s_law_unit) _ _ = true by decide +kernel)) h2 h3 h4))) (dg_name (i := 2) sc_law_unit.nd rfl (by first | exact Or.inl rfl | exact Or.inr rfl)) (fun te g h1 h2 => ps_asg h1 h2))) (fun wi g tb h1 h2 h3 => ps_for (passes_of rfl) rfl h1 h2 h3))
  (ds_one (ds_ret (d_fn (ok_law_some T) (L2N.takes_of rfl rfl rfl rfl) (da_cons (d_name (pv 0)) (da_cons (d_name (pv 2)) da_nil)) (fun ds st h => hlen_law_some ds st h) (fun t hx ha => pe_callS (ok_law_some T) (hr.mono (by decide)) rfl ( T.g_law_some) ( T.f_law_some.kp) ( T.b_law_some) hx ha)))))) ds_nil)
  (ds_cons (ds_asg (d_fn (ok_law_power T) (L2N.takes_of rfl rfl rfl rfl) (da_cons (d_name (pv 1)) (da_cons (d_fn (ok_law_first T) (L2N.takes_of rfl rfl rfl rfl) (da_cons (d_name (pv 1)) da_nil) (fun ds st h => hlen_law_first ds st h) (fun t hx ha => pe_callS (ok_law_first T) (hr.mono (by decide)) rfl ( T.g_law_first) ( T.f_law_first.kp) ( T.b_law_first) hx ha)) (da_cons (d_bin (o_sub) (d_fn (ok_law_roll T) (L2N.takes_of rfl rfl rfl rfl) (da_cons (d_name (pv 0)) (da_cons d_int da_nil)) (fun ds st h => hlen_law_roll ds st h) (fun t hx ha => pe_callS (ok_law_roll T) (hr.mono (by decide)) rfl ( T.g_law_roll) ( T.f_law_roll.kp) ( T.b_law_roll) hx ha)) d_int) da_nil))) (fun ds st h => hlen_law_power ds st h) (fun t hx ha => pe_callS (ok_law_power T) (hr.mono (by decide)) rfl ( T.g_law_power) ( T.f_law_power.kp) ( T.b_law_power) hx ha)) (dg_name (i := 4) sc_law_unit.nd rfl (by first | exact Or.inl rfl | exact Or.inr rfl)) (fun te g h1 h2 => ps_asg h1 h2))
  (ds_one (ds_ret (d_ifExp (d_cmpT (o_eq rfl hr.units) (d_fn (ok_law_roll T) (L2N.takes_of rfl rfl rfl rfl) (da_cons (d_name (pv 0)) (da_cons d_int da_nil)) (fun ds st h => hlen_law_roll ds st h) (fun t hx ha => pe_callS (ok_law_roll T) (hr.mono (by decide)) rfl ( T.g_law_roll) ( T.f_law_roll.kp) ( T.b_law_roll) hx ha)) d_int (nomark _)) (d_name (pv 4)) (d_tup (da_cons (d_un o_neg (d_ix rfl (d_name (pv 4)) d_int (fun _ _ => rfl))) (da_cons (d_un o_neg (d_ix rfl (d_name (pv 4)) d_int (fun _ _ => rfl))) da_nil)))))))))
theorem ok_law_is_free (T : Top P G mg a) : FnOk P w G.K mg base (L2N.CX P w) 2 a.a_law_is_free a.d_law_is_free (["number"] : List Str) (spM G 1 (m_law_is_free)) := by
  exact fn_ok (n := 1) (k := 1) T.f_law_is_free sc_law_is_free rfl fun cdv A outer s H E hr => (ds_one (ds_ret (d_and (d_cmp (o_gt) (d_name (pv 0)) d_int (nomark _)) (d_one (d_cmp (o_ne rfl hr.units) (d_bin (o_pow) (d_fn (ok_law_root T) (L2N.takes_of rfl rfl rfl rfl) (da_cons (d_name (pv 0)) da_nil) (fun ds st h => hlen_law_root ds st h) (fun t hx ha => pe_callS (ok_law_root T) (hr.mono (by decide)) rfl ( T.g_law_root) ( T.f_law_root.kp) ( T.b_law_root) hx ha)) d_int) (d_name (pv 0)) (nomark _))))))
theorem ok_law_near (T : Top P G mg a) : FnOk P w G.K mg base (L2N.CX P w) 2 a.a_law_near a.d_law_near (["cup", "unit"] : List Str) (spM G 2 (m_law_near)) := by
  exact fn_ok (n := 2) (k := 1) T.f_law_near sc_law_near rfl fun cdv A outer s H E hr => (ds_cons (ds_asg (d_name (pv 1)) (dg_tup rfl (dgs_cons (dg_name (i := 2) sc_law_near.nd rfl (by first | exact Or.inl rfl | exact Or.inr rfl)) (dgs_cons (dg_name (i := 3) sc_law_near.nd rfl (by first | exact Or.inl rfl | exact Or.inr rfl)) dgs_nil (fun t u h1 h2 => pgs_cons h1 h2)) (fun t u h1 h2 => pgs_cons h1 h2)) (fun t h1 => pg_tup rfl h1)) (fun te g h1 h2 => ps_asg h1 h2))
  (ds_cons (ds_asg (d_lst (da_cons (d_name (pv 1)) (da_cons (d_tup (da_cons (d_name (pv 2)) (da_cons (d_un o_neg (d_name (pv 3))) da_nil))) (da_cons (d_tup (da_cons (d_un o_neg (d_name (pv 2))) (da_cons (d_name (pv 3)) da_nil))) (da_cons (d_tup (da_cons (d_name (pv 3)) (da_cons (d_name (pv 2)) da_nil))) (da_cons (d_tup (da_cons (d_bin (o_add rfl) (d_name (pv 2)) d_int) (da_cons (d_name (pv 3)) da_nil))) (da_cons (d_tup (da_cons (d_name (pv 2)) (da_cons (d_bin (o_add rfl) (d_name (pv 3)) d_int) da_nil))) (da_cons (d_tup (da_cons (d_bin (o_mul rfl) d_int (d_name (pv 2))) (da_cons (d_name (pv 3)) da_nil))) (da_cons (d_lst (da_cons (d_name (pv 2)) (da_cons (d_name (pv 3)) da_nil))) (da_cons (d_tup (da_cons (d_name (pv 2)) da_nil)) (da_cons (d_tup (da_cons (d_name (pv 2)) (da_cons (d_name (pv 3)) (da_cons d_int da_nil)))) (da_cons (d_tup (da_cons (d_name (pv 2)) (da_cons d_non da_nil))) (da_cons (d_tup (da_cons (d_callTy (c_str SkE.call_str_str) rfl T.n_str (by decide +kernel) (da_cons (d_name (pv 2)) da_nil) (fun r t h1 h2 => pe_callTy h1 rfl T.n_str (by decide +kernel) h2)) (da_cons (d_name (pv 3)) da_nil))) da_nil))))))))))))) (dg_name (i := 4) sc_law_near.nd rfl (by first | exact Or.inl rfl | exact Or.inr rfl)) (fun te g h1 h2 => ps_asg h1 h2))
  (ds_one (ds_ret (d_bin (o_add rfl) (d_name (pv 4)) (d_lst (da_cons d_non (da_cons (d_name (pv 2)) (da_cons (d_tup (da_cons (d_bin (o_sub) (d_bin (o_add rfl) (d_name (pv 2)) (d_fn (ok_law_roll T) (L2N.takes_of rfl rfl rfl rfl) (da_cons (d_name (pv 0)) (da_cons d_int da_nil)) (fun ds st h => hlen_law_roll ds st h) (fun t hx ha => pe_callS (ok_law_roll T) (hr.mono (by decide)) rfl ( T.g_law_roll) ( T.f_law_roll.kp) ( T.b_law_roll) hx ha))) d_int) (da_cons (d_bin (o_sub) (d_bin (o_add rfl) (d_name (pv 3)) (d_fn (ok_law_roll T) (L2N.takes_of rfl rfl rfl rfl) (da_cons (d_name (pv 0)) (da_cons d_int da_nil)) (fun ds st h => hlen_law_roll ds st h) (fun t hx ha => pe_callS (ok_law_roll T) (hr.mono (by decide)) rfl ( T.g_law_roll) ( T.f_law_roll.kp) ( T.b_law_roll) hx ha))) d_int) da_nil))) da_nil)))))))))
theorem ok_law_right (T : Top P G mg a) (tb_law_right : LamX.TabB base mg a.c_law_right a.t_law_right) (tm_law_right : (a.t_law_right, ("_law_right" : Str) ++ ".<locals>." ++ "<lambda>") ∈ G.T) : FnOk P w G.K mg base (L2N.CX P w) 11 a.a_law_right a.d_law_right (["cup", "number"] : List Str) (spM G 2 (m_law_right)) := by
  obtain ⟨ocE, odE, kVE, docE, pmE, anE, cdvE, ctE, oslE, eE, lkE, cdE⟩ := T.f_law_error.ex
  have bE := T.b_law_error
  rw [eE] at bE lkE
  exact fn_okC (n := 2) (k := 10) T.f_law_right sc_law_right rfl fun A outer s H E hr => (ds_cons (ds_asg (d_tup (da_cons (d_fn (ok_law_unit T) (L2N.takes_of rfl rfl rfl rfl) (da_cons (d_name (pv 0)) (da_cons (d_name (pv 1)) da_nil)) (fun ds st h => hlen_law_unit ds st h) (fun t hx ha => pe_callS (ok_law_unit T) (hr.mono (by decide)) rfl ( T.g_law_unit) ( T.f_law_unit.kp) ( T.b_law_unit) hx ha)) (da_cons (d_fn (ok_law_unit T) (L2N.takes_of rfl rfl rfl rfl) (da_cons (d_name (pv 0)) (da_cons (d_name (pv 1)) da_nil)) (fun ds st h => hlen_law_unit ds st h) (fun t hx ha => pe_callS (ok_law_unit T) (hr.mono (by decide)) rfl ( T.g_law_unit) ( T.f_law_unit.kp) ( T.b_law_unit) hx ha)) da_nil))) (dg_tup rfl (dgs_cons (dg_name (i := 2) sc_law_right.nd rfl (by first | exact Or.inl rfl | exact Or.inr rfl)) (dgs_cons (dg_name (i := 3) sc_law_right.nd rfl (by first | exact Or.inl rfl | exact Or.inr rfl)) dgs_nil (fun t u h1 h2 => pgs_cons h1 h2)) (fun t u h1 h2 => pgs_cons h1 h2)) (fun t h1 => pg_tup rfl h1)) (fun te g h1 h2 => ps_asg h1 h2))
  (ds_cons (ds_if (dt_not (d_truth rfl (d_fn (ok_law_like T 8) (L2N.takes_of rfl rfl rfl rfl) (da_cons (d_lst (da_cons (d_fn (ok_is_discriminant T) (L2N.takes_of rfl rfl rfl rfl) (da_cons (d_name (pv 1)) da_nil) (fun ds st h => hlen_is_discriminant ds st h) (fun t hx ha => pe_callS (ok_is_discriminant T) (hr.mono (by decide)) rfl ( T.g_is_discriminant) ( T.f_is_discriminant.kp) ( T.b_is_discriminant) hx ha)) (da_cons (d_fn (ok_is_free T) (L2N.takes_of rfl rfl rfl rfl) (da_cons (d_name (pv 1)) da_nil) (fun ds st h => hlen_is_free ds st h) (fun t hx ha => pe_callS (ok_is_free T) (hr.mono (by decide)) rfl ( T.g_is_free) ( T.f_is_free.kp) ( T.b_is_free) hx ha)) da_nil))) (da_cons (d_lst (da_cons d_bl (da_cons (d_fn (ok_law_is_free T) (L2N.takes_of rfl rfl rfl rfl) (da_cons (d_name (pv 1)) da_nil) (fun ds st h => hlen_law_is_free ds st h) (fun t hx ha => pe_callS (ok_law_is_free T) (hr.mono (by decide)) rfl ( T.g_law_is_free) ( T.f_law_is_free.kp) ( T.b_law_is_free) hx ha)) da_nil))) da_nil)) (fun ds st h => hlen_law_like ds st h) (fun t hx ha => pe_callS (ok_law_like T 8) (hr.mono (by decide)) rfl ( T.g_law_like) ( T.f_law_like.kp) ( T.b_law_like) hx ha)))) (ds_one (ds_ret d_bl)) ds_nil)
  (ds_cons (ds_if (d_cmpT (o_ne rfl hr.units) (d_lc (own := [("value", 8)]) (t := (.nm 8)) (by rfl) (di_of rfl (d_fn (ok_law_near T) (L2N.takes_of rfl rfl rfl rfl) (da_cons (d_name (pv 0)) (da_cons (d_name (pv 2)) da_nil)) (fun ds st h => hlen_law_near ds st h) (fun t hx ha => pe_callS (ok_law_near T) (hr.mono (by decide)) rfl ( T.g_law_near) ( T.f_law_near.kp) ( T.b_law_near) hx ha))) (fun s H C cl fp => (dg_name (i := 8) sc_law_right.nd rfl (by first | exact Or.inl rfl | exact Or.inr rfl))) (fun s H C cl fp => (dts_one (dt_not (d_truth rfl (d_fn (ok_law_like T 8) takesN (da_cons (d_fn (ok_is_unit T) takesN (da_cons (d_name (pv 1)) (da_cons (d_name (pv 8)) da_nil)) (fun ds st h => hlen_is_unit ds st h) (fun t hx ha => pe_callS (ok_is_unit T) (hr.mono (by decide)) rfl ( T.g_is_unit) ( T.f_is_unit.kp) ( T.b_is_unit) hx ha)) (da_cons (d_fn (ok_law_is_unit T) takesN (da_cons (d_name (pv 1)) (da_cons (d_name (pv 8)) da_nil)) (fun ds st h => hlen_law_is_unit ds st h) (fun t hx ha => pe_callS (ok_law_is_unit T) (hr.mono (by decide)) rfl ( T.g_law_is_unit) ( T.f_law_is_unit.kp) ( T.b_law_is_unit) hx ha)) da_nil)) (fun ds st h => hlen_law_like ds st h) (fun t hx ha => pe_callS (ok_law_like T 8) (hr.mono (by decide)) rfl ( T.g_law_like) ( T.f_law_like.kp) ( T.b_law_like) hx ha)))))) (fun s H C cl fp => (d_name (pv 8))) (fun wi g tt te h1 h2 h3 h4 => pe_lc rfl sc_law_right.nd h1 (blkOk_by (show blkC (["cup", "number", "one", "other", "both", "often", "told", "due", "value"] : List Str) (defScope s_law_right) _ _ = true by decide +kernel)) h2 h3 h4)) (d_lst da_nil) (nomark _)) (ds_one (ds_ret d_bl)) ds_nil)
  (ds_cons (PS.imp (ps_par (i := 4) (j := 5) rfl sc_law_right.nd rfl rfl (by decide) rfl rfl (da_cons (d_fn (ok_law_times T) (L2N.takes_of rfl rfl rfl rfl) (da_cons (d_name (pv 1)) (da_cons (d_name (pv 2)) (da_cons (d_name (pv 3)) da_nil))) (fun ds st h => hlen_law_times ds st h) (fun t hx ha => pe_callS (ok_law_times T) (hr.mono (by decide)) rfl ( T.g_law_times) ( T.f_law_times.kp) ( T.b_law_times) hx ha)) (da_cons (d_bin (o_sub) (d_fn (ok_law_roll T) (L2N.takes_of rfl rfl rfl rfl) (da_cons (d_name (pv 0)) (da_cons d_int da_nil)) (fun ds st h => hlen_law_roll ds st h) (fun t hx ha => pe_callS (ok_law_roll T) (hr.mono (by decide)) rfl ( T.g_law_roll) ( T.f_law_roll.kp) ( T.b_law_roll) hx ha)) d_int) da_nil)) (by rfl)) fun Dn σ H h => par_k h)
  (ds_cons (ds_asg (d_lst (da_cons (d_fn (ok_unit_product T) (L2N.takes_of rfl rfl rfl rfl) (da_cons (d_name (pv 1)) (da_cons (d_name (pv 2)) (da_cons (d_name (pv 3)) da_nil))) (fun ds st h => hlen_unit_product ds st h) (fun t hx ha => pe_callS (ok_unit_product T) (hr.mono (by decide)) rfl ( T.g_unit_product) ( T.f_unit_product.kp) ( T.b_unit_product) hx ha)) (da_cons (d_fn (ok_unit_norm T) (L2N.takes_of rfl rfl rfl rfl) (da_cons (d_name (pv 1)) (da_cons (d_name (pv 2)) da_nil)) (fun ds st h => hlen_unit_norm ds st h) (fun t hx ha => pe_callS (ok_unit_norm T) (hr.mono (by decide)) rfl ( T.g_unit_norm) ( T.f_unit_norm.kp) ( T.b_unit_norm) hx ha)) (da_cons (d_fn (ok_unit_norm T) (L2N.takes_of rfl rfl rfl rfl) (da_cons (d_name (pv 1)) (da_cons (d_name (pv 4)) da_nil)) (fun ds st h => hlen_unit_norm ds st h) (fun t hx ha => pe_callS (ok_unit_norm T) (hr.mono (by decide)) rfl ( T.g_unit_norm) ( T.f_unit_norm.kp) ( T.b_unit_norm) hx ha)) (da_cons (d_fn (ok_unit_opposite T) (L2N.takes_of rfl rfl rfl rfl) (da_cons (d_name (pv 1)) (da_cons (d_name (pv 2)) da_nil)) (fun ds st h => hlen_unit_opposite ds st h) (fun t hx ha => pe_callS (ok_unit_opposite T) (hr.mono (by decide)) rfl ( T.g_unit_opposite) ( T.f_unit_opposite.kp) ( T.b_unit_opposite) hx ha)) da_nil))))) (dg_name (i := 6) sc_law_right.nd rfl (by first | exact Or.inl rfl | exact Or.inr rfl)) (fun te g h1 h2 => ps_asg h1 h2))
  (ds_cons (ds_asg (d_lst (da_cons (d_name (pv 4)) (da_cons (d_fn (ok_law_norm T) (L2N.takes_of rfl rfl rfl rfl) (da_cons (d_name (pv 1)) (da_cons (d_name (pv 2)) da_nil)) (fun ds st h => hlen_law_norm ds st h) (fun t hx ha => pe_callS (ok_law_norm T) (hr.mono (by decide)) rfl ( T.g_law_norm) ( T.f_law_norm.kp) ( T.b_law_norm) hx ha)) (da_cons (d_bin (o_mul rfl) (d_fn (ok_law_norm T) (L2N.takes_of rfl rfl rfl rfl) (da_cons (d_name (pv 1)) (da_cons (d_name (pv 2)) da_nil)) (fun ds st h => hlen_law_norm ds st h) (fun t hx ha => pe_callS (ok_law_norm T) (hr.mono (by decide)) rfl ( T.g_law_norm) ( T.f_law_norm.kp) ( T.b_law_norm) hx ha)) (d_fn (ok_law_norm T) (L2N.takes_of rfl rfl rfl rfl) (da_cons (d_name (pv 1)) (da_cons (d_name (pv 3)) da_nil)) (fun ds st h => hlen_law_norm ds st h) (fun t hx ha => pe_callS (ok_law_norm T) (hr.mono (by decide)) rfl ( T.g_law_norm) ( T.f_law_norm.kp) ( T.b_law_norm) hx ha))) (da_cons (d_tup (da_cons (d_un o_neg (d_ix rfl (d_name (pv 2)) d_int (fun _ _ => rfl))) (da_cons (d_un o_neg (d_ix rfl (d_name (pv 2)) d_int (fun _ _ => rfl))) da_nil))) da_nil))))) (dg_name (i := 7) sc_law_right.nd rfl (by first | exact Or.inl rfl | exact Or.inr rfl)) (fun te g h1 h2 => ps_asg h1 h2))
  (ds_cons (ds_asg (d_bin (o_add rfl) (d_name (pv 6)) (d_lst (da_cons (d_fn (ok_unit_back T) (L2N.takes_of rfl rfl rfl rfl) (da_cons (d_name (pv 1)) (da_cons (d_name (pv 2)) da_nil)) (fun ds st h => hlen_unit_back ds st h) (fun t hx ha => pe_callS (ok_unit_back T) (hr.mono (by decide)) rfl ( T.g_unit_back) ( T.f_unit_back.kp) ( T.b_unit_back) hx ha)) (da_cons (d_fn (ok_unit_power T) (L2N.takes_of rfl rfl rfl rfl) (da_cons (d_name (pv 1)) (da_cons (d_name (pv 2)) (da_cons (d_name (pv 5)) da_nil))) (fun ds st h => hlen_unit_power ds st h) (fun t hx ha => pe_callS (ok_unit_power T) (hr.mono (by decide)) rfl ( T.g_unit_power) ( T.f_unit_power.kp) ( T.b_unit_power) hx ha)) (da_cons (d_fn (ok_unit_product T) (L2N.takes_of rfl rfl rfl rfl) (da_cons (d_name (pv 1)) (da_cons (d_fn (ok_unit_back T) (L2N.takes_of rfl rfl rfl rfl) (da_cons (d_name (pv 1)) (da_cons (d_name (pv 2)) da_nil)) (fun ds st h => hlen_unit_back ds st h) (fun t hx ha => pe_callS (ok_unit_back T) (hr.mono (by decide)) rfl ( T.g_unit_back) ( T.f_unit_back.kp) ( T.b_unit_back) hx ha)) (da_cons (d_name (pv 2)) da_nil))) (fun ds st h => hlen_unit_product ds st h) (fun t hx ha => pe_callS (ok_unit_product T) (hr.mono (by decide)) rfl ( T.g_unit_product) ( T.f_unit_product.kp) ( T.b_unit_product) hx ha)) da_nil))))) (dg_name (i := 6) sc_law_right.nd rfl (by first | exact Or.inl rfl | exact Or.inr rfl)) (fun te g h1 h2 => ps_asg h1 h2))
  (ds_cons (ds_asg (d_bin (o_add rfl) (d_name (pv 7)) (d_lst (da_cons (d_fn (ok_law_power T) (L2N.takes_of rfl rfl rfl rfl) (da_cons (d_name (pv 1)) (da_cons (d_name (pv 2)) (da_cons (d_un o_neg d_int) da_nil))) (fun ds st h => hlen_law_power ds st h) (fun t hx ha => pe_callS (ok_law_power T) (hr.mono (by decide)) rfl ( T.g_law_power) ( T.f_law_power.kp) ( T.b_law_power) hx ha)) (da_cons (d_fn (ok_law_power T) (L2N.takes_of rfl rfl rfl rfl) (da_cons (d_name (pv 1)) (da_cons (d_name (pv 2)) (da_cons (d_name (pv 5)) da_nil))) (fun ds st h => hlen_law_power ds st h) (fun t hx ha => pe_callS (ok_law_power T) (hr.mono (by decide)) rfl ( T.g_law_power) ( T.f_law_power.kp) ( T.b_law_power) hx ha)) (da_cons (d_tup (da_cons d_int (da_cons d_int da_nil))) da_nil))))) (dg_name (i := 7) sc_law_right.nd rfl (by first | exact Or.inl rfl | exact Or.inr rfl)) (fun te g h1 h2 => ps_asg h1 h2))
  (ds_cons (ds_if (dt_not (d_truth rfl (d_fn (ok_law_like T 8) (L2N.takes_of rfl rfl rfl rfl) (da_cons (d_name (pv 6)) (da_cons (d_name (pv 7)) da_nil)) (fun ds st h => hlen_law_like ds st h) (fun t hx ha => pe_callS (ok_law_like T 8) (hr.mono (by decide)) rfl ( T.g_law_like) ( T.f_law_like.kp) ( T.b_law_like) hx ha)))) (ds_one (ds_ret d_bl)) ds_nil)
  (ds_cons (ds_if (dt_not (d_truth rfl (d_fn (ok_law_is_free T) (L2N.takes_of rfl rfl rfl rfl) (da_cons (d_name (pv 1)) da_nil) (fun ds st h => hlen_law_is_free ds st h) (fun t hx ha => pe_callS (ok_law_is_free T) (hr.mono (by decide)) rfl ( T.g_law_is_free) ( T.f_law_is_free.kp) ( T.b_law_is_free) hx ha)))) (ds_one (ds_ret (d_cmp (o_eq rfl hr.units) (d_err (k := 5) rfl T.g_law_error T.f_law_error.kp lkE cdE bE sc_law_error rfl (Or.inl rfl) (tells_err T) tb_law_right rfl tm_law_right (fun p hp e => T.tabU p hp _ tm_law_right e) (hr.mono (by decide)) (LamX.lamS_by (show LamX.lamSB (defScope s_law_right) _ = true by decide +kernel)) rfl (fun _ _ _ _ _ => rfl) (fun A outer s H E f c' hrl => (d_fn (ok_is_above_one T) (L2N.takes_of rfl rfl rfl rfl) (da_cons (d_name (pv 1)) (da_cons (d_name (pv 2)) da_nil)) (fun ds st h => hlen_is_above_one ds st h) (fun t hx ha => pe_callS (ok_is_above_one T) (hrl.mono (by decide)) rfl ( T.g_is_above_one) ( T.f_is_above_one.kp) ( T.b_is_above_one) hx ha)))) (d_str (by decide +kernel)) (nomark _)))) ds_nil)
  (ds_one (ds_ret (d_fn (ok_law_like T 8) (L2N.takes_of rfl rfl rfl rfl) (da_cons (d_fn (ok_is_above_one T) (L2N.takes_of rfl rfl rfl rfl) (da_cons (d_name (pv 1)) (da_cons (d_name (pv 2)) da_nil)) (fun ds st h => hlen_is_above_one ds st h) (fun t hx ha => pe_callS (ok_is_above_one T) (hr.mono (by decide)) rfl ( T.g_is_above_one) ( T.f_is_above_one.kp) ( T.b_is_above_one) hx ha)) (da_cons (d_and (d_cmp (o_gt) (d_ix rfl (d_name (pv 2)) d_int (fun _ _ => rfl)) d_int (nomark _)) (d_one (d_cmp (o_gt) (d_ix rfl (d_name (pv 2)) d_int (fun _ _ => rfl)) d_int (nomark _)))) da_nil)) (fun ds st h => hlen_law_like ds st h) (fun t hx ha => pe_callS (ok_law_like T 8) (hr.mono (by decide)) rfl ( T.g_law_like) ( T.f_law_like.kp) ( T.b_law_like) hx ha))))))))))))))
theorem ok_law_ten (T : Top P G mg a) : FnOk P w G.K mg base (L2N.CX P w) 1 a.a_law_ten a.d_law_ten (["many"] : List Str) (spM G 1 (m_law_ten)) := by
  exact fn_ok (n := 1) (k := 0) T.f_law_ten sc_law_ten rfl fun cdv A outer s H E hr => (ds_cons (ds_asg d_int (dg_name (i := 1) sc_law_ten.nd rfl (by first | exact Or.inl rfl | exact Or.inr rfl)) (fun te g h1 h2 => ps_asg h1 h2))
  (ds_cons (ds_for (di_range1 (fun ta h => pi_range1 rfl T.n_range h) (da_cons (d_name (pv 0)) da_nil) (len_cons len_nil)) (dg_name (i := 2) sc_law_ten.nd rfl (by first | exact Or.inl rfl | exact Or.inr rfl)) (ds_one (ds_asg (d_bin (o_mul rfl) (d_name (pv 1)) d_int) (dg_name (i := 1) sc_law_ten.nd rfl (by first | exact Or.inl rfl | exact Or.inr rfl)) (fun te g h1 h2 => ps_asg h1 h2))) (fun wi g tb h1 h2 h3 => ps_for (passes_of rfl) rfl h1 h2 h3))
  (ds_one (ds_ret (d_name (pv 1))))))
theorem ok_law_digits_right (T : Top P G mg a) (tb_law_digits_right : LamX.TabB base mg a.c_law_digits_right a.t_law_digits_right) (tm_law_digits_right : (a.t_law_digits_right, ("_law_digits_right" : Str) ++ ".<locals>." ++ "<lambda>") ∈ G.T) : FnOk P w G.K mg base (L2N.CX P w) 11 a.a_law_digits_right a.d_law_digits_right ([] : List Str) (spM G 0 (m_law_digits_right)) := by
  obtain ⟨ocE, odE, kVE, docE, pmE, anE, cdvE, ctE, oslE, eE, lkE, cdE⟩ := T.f_law_error.ex
  have bE := T.b_law_error
  rw [eE] at bE lkE
  have gk : ∀ b : SM, _ → FnOk P w G.K mg base (L2N.CX P w) 11 a.a_law_digits_right a.d_law_digits_right ([] : List Str) (spM G 0 (fnM 0 6 b)) := fun b hb => fn_okC (n := 0) (k := 10) T.f_law_digits_right sc_law_digits_right rfl hb
  unfold m_law_digits_right
  exact gk (b_law_digits_right) (fun A outer s H E hr => (ds_cons (ds_asg (d_tup (da_cons (d_tup (da_cons d_int (da_cons d_int da_nil))) (da_cons (d_fn (ok_law_ten T) (L2N.takes_of rfl rfl rfl rfl) (da_cons d_int da_nil) (fun ds st h => hlen_law_ten ds st h) (fun t hx ha => pe_callS (ok_law_ten T) (hr.mono (by decide)) rfl ( T.g_law_ten) ( T.f_law_ten.kp) ( T.b_law_ten) hx ha)) da_nil))) (dg_tup rfl (dgs_cons (dg_name (i := 0) sc_law_digits_right.nd rfl (by first | exact Or.inl rfl | exact Or.inr rfl)) (dgs_cons (dg_name (i := 1) sc_law_digits_right.nd rfl (by first | exact Or.inl rfl | exact Or.inr rfl)) dgs_nil (fun t u h1 h2 => pgs_cons h1 h2)) (fun t u h1 h2 => pgs_cons h1 h2)) (fun t h1 => pg_tup rfl h1)) (fun te g h1 h2 => ps_asg h1 h2))
  (ds_cons (ds_setLc (i := 2) (own := [("often", 5)]) (t := (.nm 5)) (by rfl) (di_of rfl (d_tup (da_cons d_int (da_cons d_int (da_cons (d_un o_neg d_int) (da_cons (d_un o_neg d_int) (da_cons d_int da_nil))))))) (fun s H C cl fp => (dg_name (i := 5) sc_law_digits_right.nd rfl (by first | exact Or.inl rfl | exact Or.inr rfl))) (fun s H C cl fp => dts_nil) (fun s H C cl fp => (d_err (k := 5) rfl T.g_law_error T.f_law_error.kp lkE cdE bE sc_law_error rfl (Or.inl rfl) (tells_err T) tb_law_digits_right rfl tm_law_digits_right (fun p hp e => T.tabU p hp _ tm_law_digits_right e) (hr.mono (by decide)) (LamX.lamS_by (by kernel_rfl)) rfl (fun _ _ _ _ _ => rfl) (fun A outer s H E f c' hrl => (d_fn (ok_unit_power T) (L2N.takes_of rfl rfl rfl rfl) (da_cons d_int (da_cons (d_name (pv 0)) (da_cons (d_name (pv 5)) da_nil))) (fun ds st h => hlen_unit_power ds st h) (fun t hx ha => pe_callS (ok_unit_power T) (hrl.mono (by decide)) rfl ( T.g_unit_power) ( T.f_unit_power.kp) ( T.b_unit_power) hx ha))))) (fun wi g tt te h1 h2 h3 h4 => ps_setLc rfl sc_law_digits_right.nd rfl rfl (sw_true rfl rfl rfl (by decide +kernel)) h1 (blkOk_by (show blkC (["e", "far", "words", "long", "told", "often"] : List Str) (defScope s_law_digits_right) _ _ = true by decide +kernel)) h2 h3 h4))
  (ds_cons (ds_if (d_cmpT (o_ne rfl hr.units) (d_name (pv 2)) (d_lst (da_cons (d_str (by decide +kernel)) (da_cons (d_str (by decide +kernel)) (da_cons (d_str (by decide +kernel)) (da_cons (d_str (by decide +kernel)) (da_cons (d_str (by decide +kernel)) da_nil)))))) (nomark _)) (ds_one (ds_ret d_bl)) ds_nil)
  (ds_cons (ds_asg (d_fn (ok_unit_power T) (L2N.takes_of rfl rfl rfl rfl) (da_cons d_int (da_cons (d_name (pv 0)) (da_cons d_int da_nil))) (fun ds st h => hlen_unit_power ds st h) (fun t hx ha => pe_callS (ok_unit_power T) (hr.mono (by decide)) rfl ( T.g_unit_power) ( T.f_unit_power.kp) ( T.b_unit_power) hx ha)) (dg_name (i := 3) sc_law_digits_right.nd rfl (by first | exact Or.inl rfl | exact Or.inr rfl)) (fun te g h1 h2 => ps_asg h1 h2))
  (ds_cons (ds_if (PW.pt (dw_or (dt_not (d_truth rfl (d_fn (ok_law_is_unit T) (L2N.takes_of rfl rfl rfl rfl) (da_cons d_int (da_cons (d_name (pv 3)) da_nil)) (fun ds st h => hlen_law_is_unit ds st h) (fun t hx ha => pe_callS (ok_law_is_unit T) (hr.mono (by decide)) rfl ( T.g_law_is_unit) ( T.f_law_is_unit.kp) ( T.b_law_is_unit) hx ha)))) (dw_or (d_cmpT (o_ge) (d_ix rfl (d_name (pv 3)) d_int (fun _ _ => rfl)) (d_name (pv 1)) (nomark _)) (dw_or (d_cmpT (o_lt) (d_bin (o_mul rfl) d_int (d_ix rfl (d_name (pv 3)) d_int (fun _ _ => rfl))) (d_name (pv 1)) (nomark _)) (dw_or1 (d_cmpT (o_ne rfl hr.units) (d_fn (ok_unit_power T) (L2N.takes_of rfl rfl rfl rfl) (da_cons d_int (da_cons (d_tup (da_cons d_int (da_cons d_int da_nil))) (da_cons d_int da_nil))) (fun ds st h => hlen_unit_power ds st h) (fun t hx ha => pe_callS (ok_unit_power T) (hr.mono (by decide)) rfl ( T.g_unit_power) ( T.f_unit_power.kp) ( T.b_unit_power) hx ha)) (d_name (pv 3)) (nomark _))))))) (ds_one (ds_ret d_bl)) ds_nil)
  (ds_cons (ds_setLc (i := 2) (own := [("often", 5)]) (t := (.nm 5)) (by rfl) (di_of rfl (d_tup (da_cons d_int (da_cons d_int (da_cons (d_un o_neg d_int) da_nil))))) (fun s H C cl fp => (dg_name (i := 5) sc_law_digits_right.nd rfl (by first | exact Or.inl rfl | exact Or.inr rfl))) (fun s H C cl fp => dts_nil) (fun s H C cl fp => (d_err (k := 5) rfl T.g_law_error T.f_law_error.kp lkE cdE bE sc_law_error rfl (Or.inl rfl) (tells_err T) tb_law_digits_right rfl tm_law_digits_right (fun p hp e => T.tabU p hp _ tm_law_digits_right e) (hr.mono (by decide)) (LamX.lamS_by (by kernel_rfl)) rfl (fun _ _ _ _ _ => rfl) (fun A outer s H E f c' hrl => (d_fn (ok_unit_power T) (L2N.takes_of rfl rfl rfl rfl) (da_cons d_int (da_cons (d_fn (ok_unit_product T) (L2N.takes_of rfl rfl rfl rfl) (da_cons d_int (da_cons (d_name (pv 3)) (da_cons (d_name (pv 0)) da_nil))) (fun ds st h => hlen_unit_product ds st h) (fun t hx ha => pe_callS (ok_unit_product T) (hrl.mono (by decide)) rfl ( T.g_unit_product) ( T.f_unit_product.kp) ( T.b_unit_product) hx ha)) (da_cons (d_name (pv 5)) da_nil))) (fun ds st h => hlen_unit_power ds st h) (fun t hx ha => pe_callS (ok_unit_power T) (hrl.mono (by decide)) rfl ( T.g_unit_power) ( T.f_unit_power.kp) ( T.b_unit_power) hx ha))))) (fun wi g tt te h1 h2 h3 h4 => ps_setLc rfl sc_law_digits_right.nd rfl rfl (sw_true rfl rfl rfl (by decide +kernel)) h1 (blkOk_by (show blkC (["e", "far", "words", "long", "told", "often"] : List Str) (defScope s_law_digits_right) _ _ = true by decide +kernel)) h2 h3 h4))
  (ds_cons (ds_if (PW.pt (dw_or (d_cmpT (o_ne rfl hr.units) (d_name (pv 2)) (d_lst (da_cons (d_str (by decide +kernel)) (da_cons (d_str (by decide +kernel)) (da_cons (d_str (by decide +kernel)) da_nil)))) (nomark _)) (dw_or1 (d_cmpT (o_ne rfl hr.units) (d_fn (ok_unit_power T) (L2N.takes_of rfl rfl rfl rfl) (da_cons d_int (da_cons (d_fn (ok_unit_product T) (L2N.takes_of rfl rfl rfl rfl) (da_cons d_int (da_cons (d_name (pv 3)) (da_cons (d_name (pv 0)) da_nil))) (fun ds st h => hlen_unit_product ds st h) (fun t hx ha => pe_callS (ok_unit_product T) (hr.mono (by decide)) rfl ( T.g_unit_product) ( T.f_unit_product.kp) ( T.b_unit_product) hx ha)) (da_cons d_int da_nil))) (fun ds st h => hlen_unit_power ds st h) (fun t hx ha => pe_callS (ok_unit_power T) (hr.mono (by decide)) rfl ( T.g_unit_power) ( T.f_unit_power.kp) ( T.b_unit_power) hx ha)) (d_tup (da_cons d_int (da_cons d_int da_nil))) (nomark _))))) (ds_one (ds_ret d_bl)) ds_nil)
  (ds_cons (ds_asg (d_lst (da_cons (d_fn (ok_unit_power T) (L2N.takes_of rfl rfl rfl rfl) (da_cons (d_un o_neg d_int) (da_cons (d_tup (da_cons d_int (da_cons d_int da_nil))) (da_cons d_int da_nil))) (fun ds st h => hlen_unit_power ds st h) (fun t hx ha => pe_callS (ok_unit_power T) (hr.mono (by decide)) rfl ( T.g_unit_power) ( T.f_unit_power.kp) ( T.b_unit_power) hx ha)) (da_cons (d_fn (ok_unit_power T) (L2N.takes_of rfl rfl rfl rfl) (da_cons (d_un o_neg d_int) (da_cons (d_tup (da_cons d_int (da_cons d_int da_nil))) (da_cons (d_un o_neg d_int) da_nil))) (fun ds st h => hlen_unit_power ds st h) (fun t hx ha => pe_callS (ok_unit_power T) (hr.mono (by decide)) rfl ( T.g_unit_power) ( T.f_unit_power.kp) ( T.b_unit_power) hx ha)) (da_cons (d_fn (ok_unit_power T) (L2N.takes_of rfl rfl rfl rfl) (da_cons (d_un o_neg d_int) (da_cons (d_tup (da_cons d_int (da_cons d_int da_nil))) (da_cons d_int da_nil))) (fun ds st h => hlen_unit_power ds st h) (fun t hx ha => pe_callS (ok_unit_power T) (hr.mono (by decide)) rfl ( T.g_unit_power) ( T.f_unit_power.kp) ( T.b_unit_power) hx ha)) (da_cons (d_fn (ok_unit_power T) (L2N.takes_of rfl rfl rfl rfl) (da_cons d_int (da_cons (d_tup (da_cons d_int (da_cons d_int da_nil))) (da_cons d_int da_nil))) (fun ds st h => hlen_unit_power ds st h) (fun t hx ha => pe_callS (ok_unit_power T) (hr.mono (by decide)) rfl ( T.g_unit_power) ( T.f_unit_power.kp) ( T.b_unit_power) hx ha)) da_nil))))) (dg_name (i := 4) sc_law_digits_right.nd rfl (by first | exact Or.inl rfl | exact Or.inr rfl)) (fun te g h1 h2 => ps_asg h1 h2))
  (ds_cons (ds_asg (d_bin (o_add rfl) (d_name (pv 4)) (d_lst (da_cons (d_fn (ok_unit_power T) (L2N.takes_of rfl rfl rfl rfl) (da_cons d_int (da_cons (d_tup (da_cons (d_un o_neg d_int) (da_cons d_int da_nil))) (da_cons d_int da_nil))) (fun ds st h => hlen_unit_power ds st h) (fun t hx ha => pe_callS (ok_unit_power T) (hr.mono (by decide)) rfl ( T.g_unit_power) ( T.f_unit_power.kp) ( T.b_unit_power) hx ha)) (da_cons (d_fn (ok_unit_power T) (L2N.takes_of rfl rfl rfl rfl) (da_cons d_int (da_cons (d_tup (da_cons d_int (da_cons d_int da_nil))) (da_cons d_int da_nil))) (fun ds st h => hlen_unit_power ds st h) (fun t hx ha => pe_callS (ok_unit_power T) (hr.mono (by decide)) rfl ( T.g_unit_power) ( T.f_unit_power.kp) ( T.b_unit_power) hx ha)) (da_cons (d_fn (ok_unit_power T) (L2N.takes_of rfl rfl rfl rfl) (da_cons d_int (da_cons (d_tup (da_cons d_int (da_cons (d_name (pv 1)) da_nil))) (da_cons d_int da_nil))) (fun ds st h => hlen_unit_power ds st h) (fun t hx ha => pe_callS (ok_unit_power T) (hr.mono (by decide)) rfl ( T.g_unit_power) ( T.f_unit_power.kp) ( T.b_unit_power) hx ha)) (da_cons (d_fn (ok_unit_power T) (L2N.takes_of rfl rfl rfl rfl) (da_cons d_int (da_cons (d_tup (da_cons (d_un o_neg d_int) (da_cons d_int da_nil))) (da_cons (d_un o_neg d_int) da_nil))) (fun ds st h => hlen_unit_power ds st h) (fun t hx ha => pe_callS (ok_unit_power T) (hr.mono (by decide)) rfl ( T.g_unit_power) ( T.f_unit_power.kp) ( T.b_unit_power) hx ha)) da_nil)))))) (dg_name (i := 4) sc_law_digits_right.nd rfl (by first | exact Or.inl rfl | exact Or.inr rfl)) (fun te g h1 h2 => ps_asg h1 h2))
  (ds_one (ds_ret (d_fn (ok_law_like T 8) (L2N.takes_of rfl rfl rfl rfl) (da_cons (d_name (pv 4)) (da_cons (d_lst (da_cons (d_tup (da_cons (d_un o_neg d_int) (da_cons (d_un o_neg d_int) da_nil))) (da_cons (d_tup (da_cons (d_un o_neg d_int) (da_cons d_int da_nil))) (da_cons (d_tup (da_cons (d_un o_neg d_int) (da_cons d_int da_nil))) (da_cons (d_tup (da_cons d_int (da_cons d_int da_nil))) (da_cons (d_tup (da_cons (d_un o_neg d_int) (da_cons d_int da_nil))) (da_cons (d_tup (da_cons d_int (da_cons d_int da_nil))) (da_cons (d_tup (da_cons d_int (da_cons (d_bin (o_mul rfl) d_int (d_name (pv 1))) da_nil))) (da_cons (d_tup (da_cons (d_un o_neg d_int) (da_cons d_int da_nil))) da_nil))))))))) da_nil)) (fun ds st h => hlen_law_like ds st h) (fun t hx ha => pe_callS (ok_law_like T 8) (hr.mono (by decide)) rfl ( T.g_law_like) ( T.f_law_like.kp) ( T.b_law_like) hx ha))))))))))))))
theorem ok_law_errors_right (T : Top P G mg a) (tb_law_errors_right : LamX.TabB base mg a.c_law_errors_right a.t_law_errors_right) (tm_law_errors_right : (a.t_law_errors_right, ("_law_errors_right" : Str) ++ ".<locals>." ++ "<lambda>") ∈ G.T) : FnOk P w G.K mg base (L2N.CX P w) 8 a.a_law_errors_right a.d_law_errors_right ([] : List Str) (spM G 0 (m_law_errors_right)) := by
  obtain ⟨ocE, odE, kVE, docE, pmE, anE, cdvE, ctE, oslE, eE, lkE, cdE⟩ := T.f_law_error.ex
  have bE := T.b_law_error
  rw [eE] at bE lkE
  have gk : ∀ b : SM, _ → FnOk P w G.K mg base (L2N.CX P w) 8 a.a_law_errors_right a.d_law_errors_right ([] : List Str) (spM G 0 (fnM 0 4 b)) := fun b hb => fn_okC (n := 0) (k := 7) T.f_law_errors_right sc_law_errors_right rfl hb
  unfold m_law_errors_right
  exact gk (b_law_errors_right) (fun A outer s H E hr => (ds_cons (ds_asg (d_lst da_nil) (dg_name (i := 0) sc_law_errors_right.nd rfl (by first | exact Or.inl rfl | exact Or.inr rfl)) (fun te g h1 h2 => ps_asg h1 h2))
  (ds_cons (ds_for (di_of rfl (d_tup (da_cons d_non (da_cons d_bl (da_cons d_int (da_cons d_int (da_cons (d_un o_neg d_int) (da_cons (d_un o_neg d_int) (da_cons (d_bin (o_add rfl) (d_bin (o_pow) d_int d_int) d_int) (da_cons (d_bin (o_sub) (d_un o_neg (d_bin (o_pow) d_int d_int)) d_int) (da_cons (d_str (by decide +kernel)) (da_cons (d_tup (da_cons d_int da_nil)) da_nil)))))))))))) (dg_name (i := 1) sc_law_errors_right.nd rfl (by first | exact Or.inl rfl | exact Or.inr rfl)) (ds_cons (ds_asg (d_bin (o_add rfl) (d_name (pv 0)) (d_lc (own := [("call", 3)]) (t := (.nm 3)) (by rfl) (di_of rfl (d_tup (da_cons (d_globF T.fa_is_unit rfl T.g_is_unit) (da_cons (d_globF T.fa_unit_norm rfl T.g_unit_norm) (da_cons (d_globF T.fa_unit_back rfl T.g_unit_back) (da_cons (d_globF T.fa_unit_opposite rfl T.g_unit_opposite) (da_cons (d_globF T.fa_is_above_one rfl T.g_is_above_one) da_nil))))))) (fun s H C cl fp => (dg_name (i := 3) sc_law_errors_right.nd rfl (by first | exact Or.inl rfl | exact Or.inr rfl))) (fun s H C cl fp => dts_nil) (fun s H C cl fp => (d_err (k := 5) rfl T.g_law_error T.f_law_error.kp lkE cdE bE sc_law_error rfl (Or.inl rfl) (tells_err T) tb_law_errors_right rfl tm_law_errors_right (fun p hp e => T.tabU p hp _ tm_law_errors_right e) (hr.mono (by decide)) (LamX.lamS_by (by kernel_rfl)) rfl (fun _ _ _ _ _ => rfl) (fun A outer s H E f c' hrl => (d_fnL (i := 3) (k := 5) (held T) (hrl.mono (by decide)) (L2N.takes_of rfl rfl rfl rfl) rfl (by first | exact Or.inl rfl | exact Or.inr (Or.inl rfl) | exact Or.inr (Or.inr rfl)) (da_cons (d_name (pv 1)) (da_cons d_non da_nil)))))) (fun wi g tt te h1 h2 h3 h4 => pe_lc rfl sc_law_errors_right.nd h1 (blkOk_by (show blkC (["words", "odd", "number", "call"] : List Str) (defScope s_law_errors_right) _ _ = true by decide +kernel)) h2 h3 h4))) (dg_name (i := 0) sc_law_errors_right.nd rfl (by first | exact Or.inl rfl | exact Or.inr rfl)) (fun te g h1 h2 => ps_asg h1 h2))
  (ds_cons (ds_asg (d_bin (o_add rfl) (d_name (pv 0)) (d_lc (own := [("call", 3)]) (t := (.nm 3)) (by rfl) (di_of rfl (d_tup (da_cons (d_globF T.fa_unit_product rfl T.g_unit_product) (da_cons (d_globF T.fa_unit_power rfl T.g_unit_power) da_nil)))) (fun s H C cl fp => (dg_name (i := 3) sc_law_errors_right.nd rfl (by first | exact Or.inl rfl | exact Or.inr rfl))) (fun s H C cl fp => dts_nil) (fun s H C cl fp => (d_err (k := 5) rfl T.g_law_error T.f_law_error.kp lkE cdE bE sc_law_error rfl (Or.inl rfl) (tells_err T) tb_law_errors_right rfl tm_law_errors_right (fun p hp e => T.tabU p hp _ tm_law_errors_right e) (hr.mono (by decide)) (LamX.lamS_by (by kernel_rfl)) rfl (fun _ _ _ _ _ => rfl) (fun A outer s H E f c' hrl => (d_fnL (i := 3) (k := 5) (held T) (hrl.mono (by decide)) (L2N.takes_of rfl rfl rfl rfl) rfl (by first | exact Or.inl rfl | exact Or.inr (Or.inl rfl) | exact Or.inr (Or.inr rfl)) (da_cons (d_name (pv 1)) (da_cons d_non (da_cons d_non da_nil))))))) (fun wi g tt te h1 h2 h3 h4 => pe_lc rfl sc_law_errors_right.nd h1 (blkOk_by (show blkC (["words", "odd", "number", "call"] : List Str) (defScope s_law_errors_right) _ _ = true by decide +kernel)) h2 h3 h4))) (dg_name (i := 0) sc_law_errors_right.nd rfl (by first | exact Or.inl rfl | exact Or.inr rfl)) (fun te g h1 h2 => ps_asg h1 h2))
  (ds_one (ds_expr (d_append (d_name (pv 0)) (da_cons (d_err (k := 4) rfl T.g_law_error T.f_law_error.kp lkE cdE bE sc_law_error rfl (Or.inl rfl) (tells_err T) tb_law_errors_right rfl tm_law_errors_right (fun p hp e => T.tabU p hp _ tm_law_errors_right e) (hr.mono (by decide)) (LamX.lamS_by (show LamX.lamSB (defScope s_law_errors_right) _ = true by decide +kernel)) rfl (fun _ _ _ _ _ => rfl) (fun A outer s H E f c' hrl => (d_fn (ok_is_free T) (L2N.takes_of rfl rfl rfl rfl) (da_cons (d_name (pv 1)) da_nil) (fun ds st h => hlen_is_free ds st h) (fun t hx ha => pe_callS (ok_is_free T) (hrl.mono (by decide)) rfl ( T.g_is_free) ( T.f_is_free.kp) ( T.b_is_free) hx ha)))) da_nil) (fun to t h1 h2 => pe_bm PySem.F.plainAttrs_list PySem.F.slot_list_append PySem.F.type_list_append mt_append h1 h2)))))) (fun wi g tb h1 h2 h3 => ps_for (passes_of rfl) rfl h1 h2 h3))
  (ds_cons (ds_if (d_cmpT (o_ne rfl hr.units) (d_name (pv 0)) (d_bin (o_mul rfl) (d_lst (da_cons (d_str (by decide +kernel)) da_nil)) d_int) (nomark _)) (ds_one (ds_ret d_bl)) ds_nil)
  (ds_cons (ds_asg (d_lst da_nil) (dg_name (i := 0) sc_law_errors_right.nd rfl (by first | exact Or.inl rfl | exact Or.inr rfl)) (fun te g h1 h2 => ps_asg h1 h2))
  (ds_cons (ds_for (di_of rfl (d_tup (da_cons d_non (da_cons (d_tup da_nil) (da_cons (d_tup (da_cons d_int da_nil)) (da_cons (d_lst (da_cons d_int (da_cons d_int da_nil))) (da_cons (d_tup (da_cons d_int (da_cons d_bl da_nil))) (da_cons (d_tup (da_cons d_int (da_cons d_int da_nil))) (da_cons (d_tup (da_cons d_int (da_cons d_int da_nil))) (da_cons (d_tup (da_cons d_int (da_cons d_int da_nil))) (da_cons (d_tup (da_cons d_int (da_cons d_int da_nil))) (da_cons d_int da_nil)))))))))))) (dg_name (i := 1) sc_law_errors_right.nd rfl (by first | exact Or.inl rfl | exact Or.inr rfl)) (ds_cons (ds_asg (d_bin (o_add rfl) (d_name (pv 0)) (d_lc (own := [("call", 3)]) (t := (.nm 3)) (by rfl) (di_of rfl (d_tup (da_cons (d_globF T.fa_unit_norm rfl T.g_unit_norm) (da_cons (d_globF T.fa_unit_back rfl T.g_unit_back) (da_cons (d_globF T.fa_unit_opposite rfl T.g_unit_opposite) (da_cons (d_globF T.fa_is_above_one rfl T.g_is_above_one) da_nil)))))) (fun s H C cl fp => (dg_name (i := 3) sc_law_errors_right.nd rfl (by first | exact Or.inl rfl | exact Or.inr rfl))) (fun s H C cl fp => dts_nil) (fun s H C cl fp => (d_err (k := 5) rfl T.g_law_error T.f_law_error.kp lkE cdE bE sc_law_error rfl (Or.inl rfl) (tells_err T) tb_law_errors_right rfl tm_law_errors_right (fun p hp e => T.tabU p hp _ tm_law_errors_right e) (hr.mono (by decide)) (LamX.lamS_by (by kernel_rfl)) rfl (fun _ _ _ _ _ => rfl) (fun A outer s H E f c' hrl => (d_fnL (i := 3) (k := 5) (held T) (hrl.mono (by decide)) (L2N.takes_of rfl rfl rfl rfl) rfl (by first | exact Or.inl rfl | exact Or.inr (Or.inl rfl) | exact Or.inr (Or.inr rfl)) (da_cons d_int (da_cons (d_name (pv 1)) da_nil)))))) (fun wi g tt te h1 h2 h3 h4 => pe_lc rfl sc_law_errors_right.nd h1 (blkOk_by (show blkC (["words", "odd", "number", "call"] : List Str) (defScope s_law_errors_right) _ _ = true by decide +kernel)) h2 h3 h4))) (dg_name (i := 0) sc_law_errors_right.nd rfl (by first | exact Or.inl rfl | exact Or.inr rfl)) (fun te g h1 h2 => ps_asg h1 h2))
  (ds_cons (ds_asg (d_bin (o_add rfl) (d_name (pv 0)) (d_lc (own := [("call", 3)]) (t := (.nm 3)) (by rfl) (di_of rfl (d_tup (da_cons (d_globF T.fa_unit_product rfl T.g_unit_product) (da_cons (d_globF T.fa_unit_power rfl T.g_unit_power) da_nil)))) (fun s H C cl fp => (dg_name (i := 3) sc_law_errors_right.nd rfl (by first | exact Or.inl rfl | exact Or.inr rfl))) (fun s H C cl fp => dts_nil) (fun s H C cl fp => (d_err (k := 5) rfl T.g_law_error T.f_law_error.kp lkE cdE bE sc_law_error rfl (Or.inl rfl) (tells_err T) tb_law_errors_right rfl tm_law_errors_right (fun p hp e => T.tabU p hp _ tm_law_errors_right e) (hr.mono (by decide)) (LamX.lamS_by (by kernel_rfl)) rfl (fun _ _ _ _ _ => rfl) (fun A outer s H E f c' hrl => (d_fnL (i := 3) (k := 5) (held T) (hrl.mono (by decide)) (L2N.takes_of rfl rfl rfl rfl) rfl (by first | exact Or.inl rfl | exact Or.inr (Or.inl rfl) | exact Or.inr (Or.inr rfl)) (da_cons d_int (da_cons (d_name (pv 1)) (da_cons d_non da_nil))))))) (fun wi g tt te h1 h2 h3 h4 => pe_lc rfl sc_law_errors_right.nd h1 (blkOk_by (show blkC (["words", "odd", "number", "call"] : List Str) (defScope s_law_errors_right) _ _ = true by decide +kernel)) h2 h3 h4))) (dg_name (i := 0) sc_law_errors_right.nd rfl (by first | exact Or.inl rfl | exact Or.inr rfl)) (fun te g h1 h2 => ps_asg h1 h2))
  (ds_cons (ds_expr (d_append (d_name (pv 0)) (da_cons (d_err (k := 5) rfl T.g_law_error T.f_law_error.kp lkE cdE bE sc_law_error rfl (Or.inl rfl) (tells_err T) tb_law_errors_right rfl tm_law_errors_right (fun p hp e => T.tabU p hp _ tm_law_errors_right e) (hr.mono (by decide)) (LamX.lamS_by (show LamX.lamSB (defScope s_law_errors_right) _ = true by decide +kernel)) rfl (fun _ _ _ _ _ => rfl) (fun A outer s H E f c' hrl => (d_fn (ok_unit_product T) (L2N.takes_of rfl rfl rfl rfl) (da_cons d_int (da_cons (d_tup (da_cons d_int (da_cons d_int da_nil))) (da_cons (d_name (pv 1)) da_nil))) (fun ds st h => hlen_unit_product ds st h) (fun t hx ha => pe_callS (ok_unit_product T) (hrl.mono (by decide)) rfl ( T.g_unit_product) ( T.f_unit_product.kp) ( T.b_unit_product) hx ha)))) da_nil) (fun to t h1 h2 => pe_bm PySem.F.plainAttrs_list PySem.F.slot_list_append PySem.F.type_list_append mt_append h1 h2)))
  (ds_one (ds_expr (d_append (d_name (pv 0)) (da_cons (d_err (k := 5) rfl T.g_law_error T.f_law_error.kp lkE cdE bE sc_law_error rfl (Or.inl rfl) (tells_err T) tb_law_errors_right rfl tm_law_errors_right (fun p hp e => T.tabU p hp _ tm_law_errors_right e) (hr.mono (by decide)) (LamX.lamS_by (show LamX.lamSB (defScope s_law_errors_right) _ = true by decide +kernel)) rfl (fun _ _ _ _ _ => rfl) (fun A outer s H E f c' hrl => (d_fn (ok_is_above_one T) (L2N.takes_of rfl rfl rfl rfl) (da_cons d_int (da_cons (d_name (pv 1)) da_nil)) (fun ds st h => hlen_is_above_one ds st h) (fun t hx ha => pe_callS (ok_is_above_one T) (hrl.mono (by decide)) rfl ( T.g_is_above_one) ( T.f_is_above_one.kp) ( T.b_is_above_one) hx ha)))) da_nil) (fun to t h1 h2 => pe_bm PySem.F.plainAttrs_list PySem.F.slot_list_append PySem.F.type_list_append mt_append h1 h2))))))) (fun wi g tb h1 h2 h3 => ps_for (passes_of rfl) rfl h1 h2 h3))
  (ds_cons (ds_if (d_cmpT (o_ne rfl hr.units) (d_name (pv 0)) (d_bin (o_mul rfl) (d_lst (da_cons (d_str (by decide +kernel)) da_nil)) d_int) (nomark _)) (ds_one (ds_ret d_bl)) ds_nil)
  (ds_cons (ds_setLc (i := 0) (own := [("odd", 1)]) (t := (.nm 1)) (by rfl) (di_of rfl (d_tup (da_cons d_non (da_cons d_bl (da_cons d_int (da_cons (d_un o_neg d_int) (da_cons (d_str (by decide +kernel)) (da_cons (d_tup (da_cons d_int da_nil)) da_nil)))))))) (fun s H C cl fp => (dg_name (i := 1) sc_law_errors_right.nd rfl (by first | exact Or.inl rfl | exact Or.inr rfl))) (fun s H C cl fp => dts_nil) (fun s H C cl fp => (d_err (k := 5) rfl T.g_law_error T.f_law_error.kp lkE cdE bE sc_law_error rfl (Or.inl rfl) (tells_err T) tb_law_errors_right rfl tm_law_errors_right (fun p hp e => T.tabU p hp _ tm_law_errors_right e) (hr.mono (by decide)) (LamX.lamS_by (by kernel_rfl)) rfl (fun _ _ _ _ _ => rfl) (fun A outer s H E f c' hrl => (d_fn (ok_unit_power T) (L2N.takes_of rfl rfl rfl rfl) (da_cons d_int (da_cons (d_tup (da_cons d_int (da_cons d_int da_nil))) (da_cons (d_name (pv 1)) da_nil))) (fun ds st h => hlen_unit_power ds st h) (fun t hx ha => pe_callS (ok_unit_power T) (hrl.mono (by decide)) rfl ( T.g_unit_power) ( T.f_unit_power.kp) ( T.b_unit_power) hx ha))))) (fun wi g tt te h1 h2 h3 h4 => ps_setLc rfl sc_law_errors_right.nd rfl rfl (sw_true rfl rfl rfl (by decide +kernel)) h1 (blkOk_by (show blkC (["words", "odd", "number", "call"] : List Str) (defScope s_law_errors_right) _ _ = true by decide +kernel)) h2 h3 h4))
  (ds_cons (ds_asg (d_bin (o_add rfl) (d_name (pv 0)) (d_lc (own := [("number", 2)]) (t := (.nm 2)) (by rfl) (di_of rfl (d_tup (da_cons d_int (da_cons d_int (da_cons d_int (da_cons (d_un o_neg d_int) (da_cons (d_un o_neg d_int) da_nil))))))) (fun s H C cl fp => (dg_name (i := 2) sc_law_errors_right.nd rfl (by first | exact Or.inl rfl | exact Or.inr rfl))) (fun s H C cl fp => dts_nil) (fun s H C cl fp => (d_err (k := 5) rfl T.g_law_error T.f_law_error.kp lkE cdE bE sc_law_error rfl (Or.inl rfl) (tells_err T) tb_law_errors_right rfl tm_law_errors_right (fun p hp e => T.tabU p hp _ tm_law_errors_right e) (hr.mono (by decide)) (LamX.lamS_by (by kernel_rfl)) rfl (fun _ _ _ _ _ => rfl) (fun A outer s H E f c' hrl => (d_fn (ok_is_above_one T) (L2N.takes_of rfl rfl rfl rfl) (da_cons (d_name (pv 2)) (da_cons (d_tup (da_cons d_int (da_cons d_int da_nil))) da_nil)) (fun ds st h => hlen_is_above_one ds st h) (fun t hx ha => pe_callS (ok_is_above_one T) (hrl.mono (by decide)) rfl ( T.g_is_above_one) ( T.f_is_above_one.kp) ( T.b_is_above_one) hx ha))))) (fun wi g tt te h1 h2 h3 h4 => pe_lc rfl sc_law_errors_right.nd h1 (blkOk_by (show blkC (["words", "odd", "number", "call"] : List Str) (defScope s_law_errors_right) _ _ = true by decide +kernel)) h2 h3 h4))) (dg_name (i := 0) sc_law_errors_right.nd rfl (by first | exact Or.inl rfl | exact Or.inr rfl)) (fun te g h1 h2 => ps_asg h1 h2))
  (ds_one (ds_ret (d_cmp (o_eq rfl hr.units) (d_name (pv 0)) (d_bin (o_add rfl) (d_bin (o_mul rfl) (d_lst (da_cons (d_str (by decide +kernel)) da_nil)) d_int) (d_bin (o_mul rfl) (d_lst (da_cons (d_str (by decide +kernel)) da_nil)) d_int)) (nomark _)))))))))))))
theorem ok_law {sn : List Int} (hsn : G.sn = sn) (T : Top P G mg a) (tb_law_right : LamX.TabB base mg a.c_law_right a.t_law_right) (tm_law_right : (a.t_law_right, ("_law_right" : Str) ++ ".<locals>." ++ "<lambda>") ∈ G.T) (tb_law_digits_right : LamX.TabB base mg a.c_law_digits_right a.t_law_digits_right) (tm_law_digits_right : (a.t_law_digits_right, ("_law_digits_right" : Str) ++ ".<locals>." ++ "<lambda>") ∈ G.T) (tb_law_errors_right : LamX.TabB base mg a.c_law_errors_right a.t_law_errors_right) (tm_law_errors_right : (a.t_law_errors_right, ("_law_errors_right" : Str) ++ ".<locals>." ++ "<lambda>") ∈ G.T) : FnOk P w G.K mg base (L2N.CX P w) 12 a.a_law a.d_law (["script"] : List Str) (spM G 1 (m_law sn)) := by
  subst hsn
  exact fn_ok (n := 1) (k := 11) T.f_law sc_law rfl fun cdv A outer s H E hr => (ds_cons (ds_asg (d_fn (ok_law_cup rfl T) (L2N.takes_of rfl rfl rfl rfl) (da_cons (d_name (pv 0)) da_nil) (fun ds st h => hlen_law_cup ds st h) (fun t hx ha => pe_callS (ok_law_cup rfl T) (hr.mono (by decide)) rfl ( T.g_law_cup) ( T.f_law_cup.kp) ( T.b_law_cup) hx ha)) (dg_name (i := 1) sc_law.nd rfl (by first | exact Or.inl rfl | exact Or.inr rfl)) (fun te g h1 h2 => ps_asg h1 h2))
  (ds_cons (ds_for (di_range1 (fun ta h => pi_range1 rfl T.n_range h) (da_cons d_int da_nil) (len_cons len_nil)) (dg_name (i := 2) sc_law.nd rfl (by first | exact Or.inl rfl | exact Or.inr rfl)) (ds_one (ds_if (dt_not (d_truth rfl (d_fn (ok_law_right T tb_law_right tm_law_right) (L2N.takes_of rfl rfl rfl rfl) (da_cons (d_name (pv 1)) (da_cons (d_fn (ok_law_number T) (L2N.takes_of rfl rfl rfl rfl) (da_cons (d_name (pv 1)) da_nil) (fun ds st h => hlen_law_number ds st h) (fun t hx ha => pe_callS (ok_law_number T) (hr.mono (by decide)) rfl ( T.g_law_number) ( T.f_law_number.kp) ( T.b_law_number) hx ha)) da_nil)) (fun ds st h => hlen_law_right ds st h) (fun t hx ha => pe_callS (ok_law_right T tb_law_right tm_law_right) (hr.mono (by decide)) rfl ( T.g_law_right) ( T.f_law_right.kp) ( T.b_law_right) hx ha)))) (ds_one (ds_ret d_bl)) ds_nil)) (fun wi g tb h1 h2 h3 => ps_for (passes_of rfl) rfl h1 h2 h3))
  (ds_cons (ds_asg (d_lst (da_cons (d_bin (o_pow) d_int d_int) (da_cons (d_un o_neg (d_bin (o_pow) d_int d_int)) (da_cons d_int (da_cons (d_un o_neg d_int) (da_cons d_int (da_cons d_int (da_cons d_int (da_cons (d_un o_neg d_int) (da_cons (d_bin (o_add rfl) (d_bin (o_pow) d_int d_int) d_int) (da_cons d_int (da_cons d_int (da_cons (d_un o_neg d_int) (da_cons (d_un o_neg d_int) (da_cons (d_un o_neg d_int) (da_cons d_non (da_cons d_bl (da_cons (d_str (by decide +kernel)) (da_cons (d_tup (da_cons d_int da_nil)) (da_cons (d_bin (o_pow) d_int d_int) da_nil)))))))))))))))))))) (dg_name (i := 3) sc_law.nd rfl (by first | exact Or.inl rfl | exact Or.inr rfl)) (fun te g h1 h2 => ps_asg h1 h2))
  (ds_cons (ds_if (d_cmpT (o_ne rfl hr.units) (d_lc (own := [("value", 6)]) (t := (.nm 6)) (by rfl) (di_of rfl (d_name (pv 3))) (fun s H C cl fp => (dg_name (i := 6) sc_law.nd rfl (by first | exact Or.inl rfl | exact Or.inr rfl))) (fun s H C cl fp => dts_nil) (fun s H C cl fp => (d_fn (ok_is_discriminant T) takesN (da_cons (d_name (pv 6)) da_nil) (fun ds st h => hlen_is_discriminant ds st h) (fun t hx ha => pe_callS (ok_is_discriminant T) (hr.mono (by decide)) rfl ( T.g_is_discriminant) ( T.f_is_discriminant.kp) ( T.b_is_discriminant) hx ha))) (fun wi g tt te h1 h2 h3 h4 => pe_lc rfl sc_law.nd h1 (blkOk_by (show blkC (["script", "cup", "turn", "values", "told", "due", "value"] : List Str) (defScope s_law) _ _ = true by decide +kernel)) h2 h3 h4)) (d_bin (o_add rfl) (d_bin (o_mul rfl) (d_lst (da_cons d_bl da_nil)) d_int) (d_bin (o_mul rfl) (d_lst (da_cons d_bl da_nil)) d_int)) (nomark _)) (ds_one (ds_ret d_bl)) ds_nil)
  (ds_cons (ds_asg (d_lst (da_cons (d_fn (ok_unit_norm T) (L2N.takes_of rfl rfl rfl rfl) (da_cons d_int (da_cons (d_tup (da_cons d_int (da_cons d_int da_nil))) da_nil)) (fun ds st h => hlen_unit_norm ds st h) (fun t hx ha => pe_callS (ok_unit_norm T) (hr.mono (by decide)) rfl ( T.g_unit_norm) ( T.f_unit_norm.kp) ( T.b_unit_norm) hx ha)) (da_cons (d_fn (ok_unit_product T) (L2N.takes_of rfl rfl rfl rfl) (da_cons d_int (da_cons (d_tup (da_cons d_int (da_cons d_int da_nil))) (da_cons (d_tup (da_cons d_int (da_cons d_int da_nil))) da_nil))) (fun ds st h => hlen_unit_product ds st h) (fun t hx ha => pe_callS (ok_unit_product T) (hr.mono (by decide)) rfl ( T.g_unit_product) ( T.f_unit_product.kp) ( T.b_unit_product) hx ha)) (da_cons (d_fn (ok_unit_back T) (L2N.takes_of rfl rfl rfl rfl) (da_cons d_int (da_cons (d_tup (da_cons d_int (da_cons d_int da_nil))) da_nil)) (fun ds st h => hlen_unit_back ds st h) (fun t hx ha => pe_callS (ok_unit_back T) (hr.mono (by decide)) rfl ( T.g_unit_back) ( T.f_unit_back.kp) ( T.b_unit_back) hx ha)) (da_cons (d_fn (ok_unit_power T) (L2N.takes_of rfl rfl rfl rfl) (da_cons d_int (da_cons (d_tup (da_cons d_int (da_cons d_int da_nil))) (da_cons d_int da_nil))) (fun ds st h => hlen_unit_power ds st h) (fun t hx ha => pe_callS (ok_unit_power T) (hr.mono (by decide)) rfl ( T.g_unit_power) ( T.f_unit_power.kp) ( T.b_unit_power) hx ha)) da_nil))))) (dg_name (i := 4) sc_law.nd rfl (by first | exact Or.inl rfl | exact Or.inr rfl)) (fun te g h1 h2 => ps_asg h1 h2))
  (ds_cons (ds_asg (d_bin (o_add rfl) (d_name (pv 4)) (d_lst (da_cons (d_fn (ok_unit_power T) (L2N.takes_of rfl rfl rfl rfl) (da_cons d_int (da_cons (d_tup (da_cons d_int (da_cons d_int da_nil))) (da_cons (d_un o_neg d_int) da_nil))) (fun ds st h => hlen_unit_power ds st h) (fun t hx ha => pe_callS (ok_unit_power T) (hr.mono (by decide)) rfl ( T.g_unit_power) ( T.f_unit_power.kp) ( T.b_unit_power) hx ha)) (da_cons (d_fn (ok_is_above_one T) (L2N.takes_of rfl rfl rfl rfl) (da_cons d_int (da_cons (d_tup (da_cons (d_un o_neg d_int) (da_cons d_int da_nil))) da_nil)) (fun ds st h => hlen_is_above_one ds st h) (fun t hx ha => pe_callS (ok_is_above_one T) (hr.mono (by decide)) rfl ( T.g_is_above_one) ( T.f_is_above_one.kp) ( T.b_is_above_one) hx ha)) (da_cons (d_fn (ok_is_above_one T) (L2N.takes_of rfl rfl rfl rfl) (da_cons d_int (da_cons (d_tup (da_cons d_int (da_cons d_int da_nil))) da_nil)) (fun ds st h => hlen_is_above_one ds st h) (fun t hx ha => pe_callS (ok_is_above_one T) (hr.mono (by decide)) rfl ( T.g_is_above_one) ( T.f_is_above_one.kp) ( T.b_is_above_one) hx ha)) (da_cons (d_fn (ok_unit_opposite T) (L2N.takes_of rfl rfl rfl rfl) (da_cons d_int (da_cons (d_tup (da_cons d_int (da_cons d_int da_nil))) da_nil)) (fun ds st h => hlen_unit_opposite ds st h) (fun t hx ha => pe_callS (ok_unit_opposite T) (hr.mono (by decide)) rfl ( T.g_unit_opposite) ( T.f_unit_opposite.kp) ( T.b_unit_opposite) hx ha)) da_nil)))))) (dg_name (i := 4) sc_law.nd rfl (by first | exact Or.inl rfl | exact Or.inr rfl)) (fun te g h1 h2 => ps_asg h1 h2))
  (ds_cons (ds_asg (d_bin (o_add rfl) (d_name (pv 4)) (d_lst (da_cons (d_fn (ok_is_unit T) (L2N.takes_of rfl rfl rfl rfl) (da_cons d_int (da_cons (d_tup (da_cons d_int (da_cons d_int da_nil))) da_nil)) (fun ds st h => hlen_is_unit ds st h) (fun t hx ha => pe_callS (ok_is_unit T) (hr.mono (by decide)) rfl ( T.g_is_unit) ( T.f_is_unit.kp) ( T.b_is_unit) hx ha)) (da_cons (d_fn (ok_is_unit T) (L2N.takes_of rfl rfl rfl rfl) (da_cons d_int (da_cons (d_tup (da_cons d_int (da_cons d_int da_nil))) da_nil)) (fun ds st h => hlen_is_unit ds st h) (fun t hx ha => pe_callS (ok_is_unit T) (hr.mono (by decide)) rfl ( T.g_is_unit) ( T.f_is_unit.kp) ( T.b_is_unit) hx ha)) (da_cons (d_fn (ok_is_unit T) (L2N.takes_of rfl rfl rfl rfl) (da_cons d_int (da_cons (d_tup (da_cons d_int (da_cons (d_fn (ok_law_ten T) (L2N.takes_of rfl rfl rfl rfl) (da_cons d_int da_nil) (fun ds st h => hlen_law_ten ds st h) (fun t hx ha => pe_callS (ok_law_ten T) (hr.mono (by decide)) rfl ( T.g_law_ten) ( T.f_law_ten.kp) ( T.b_law_ten) hx ha)) da_nil))) da_nil)) (fun ds st h => hlen_is_unit ds st h) (fun t hx ha => pe_callS (ok_is_unit T) (hr.mono (by decide)) rfl ( T.g_is_unit) ( T.f_is_unit.kp) ( T.b_is_unit) hx ha)) (da_cons (d_fn (ok_is_unit T) (L2N.takes_of rfl rfl rfl rfl) (da_cons (d_un o_neg d_int) (da_cons (d_tup (da_cons d_int (da_cons (d_un o_neg d_int) da_nil))) da_nil)) (fun ds st h => hlen_is_unit ds st h) (fun t hx ha => pe_callS (ok_is_unit T) (hr.mono (by decide)) rfl ( T.g_is_unit) ( T.f_is_unit.kp) ( T.b_is_unit) hx ha)) (da_cons (d_fn (ok_is_free T) (L2N.takes_of rfl rfl rfl rfl) (da_cons d_int da_nil) (fun ds st h => hlen_is_free ds st h) (fun t hx ha => pe_callS (ok_is_free T) (hr.mono (by decide)) rfl ( T.g_is_free) ( T.f_is_free.kp) ( T.b_is_free) hx ha)) (da_cons (d_fn (ok_is_free T) (L2N.takes_of rfl rfl rfl rfl) (da_cons d_int da_nil) (fun ds st h => hlen_is_free ds st h) (fun t hx ha => pe_callS (ok_is_free T) (hr.mono (by decide)) rfl ( T.g_is_free) ( T.f_is_free.kp) ( T.b_is_free) hx ha)) da_nil)))))))) (dg_name (i := 4) sc_law.nd rfl (by first | exact Or.inl rfl | exact Or.inr rfl)) (fun te g h1 h2 => ps_asg h1 h2))
  (ds_cons (ds_asg (d_lst (da_cons (d_un o_neg d_int) (da_cons (d_tup (da_cons d_int (da_cons d_int da_nil))) (da_cons (d_tup (da_cons (d_un o_neg d_int) (da_cons d_int da_nil))) (da_cons (d_tup (da_cons d_int (da_cons d_int da_nil))) (da_cons (d_tup (da_cons d_int (da_cons (d_un o_neg d_int) da_nil))) (da_cons d_bl (da_cons d_bl (da_cons (d_tup (da_cons (d_un o_neg d_int) (da_cons (d_un o_neg d_int) da_nil))) (da_cons d_bl (da_cons d_bl (da_cons d_bl (da_cons d_bl (da_cons d_bl (da_cons d_bl da_nil))))))))))))))) (dg_name (i := 5) sc_law.nd rfl (by first | exact Or.inl rfl | exact Or.inr rfl)) (fun te g h1 h2 => ps_asg h1 h2))
  (ds_one (ds_ret (d_and (d_fn (ok_law_like T 8) (L2N.takes_of rfl rfl rfl rfl) (da_cons (d_name (pv 4)) (da_cons (d_name (pv 5)) da_nil)) (fun ds st h => hlen_law_like ds st h) (fun t hx ha => pe_callS (ok_law_like T 8) (hr.mono (by decide)) rfl ( T.g_law_like) ( T.f_law_like.kp) ( T.b_law_like) hx ha)) (d_and (d_fn0 (ok_law_digits_right T tb_law_digits_right tm_law_digits_right) (L2N.takes_of rfl rfl rfl rfl) (hr.mono (by decide)) rfl ( T.g_law_digits_right) ( T.f_law_digits_right.kp) ( T.b_law_digits_right) (fun ds st h => hlen_law_digits_right ds st h)) (d_one (d_fn0 (ok_law_errors_right T tb_law_errors_right tm_law_errors_right) (L2N.takes_of rfl rfl rfl rfl) (hr.mono (by decide)) rfl ( T.g_law_errors_right) ( T.f_law_errors_right.kp) ( T.b_law_errors_right) (fun ds st h => hlen_law_errors_right ds st h)))))))))))))))
end
end K21
/-! K21A: the law of the pairs: its own words (own work). -/
namespace K21
open PySem _root_.L2 Mir PyProof.Rows
theorem ten_i (k : Nat) (ki : Int) (ek : ki.toNat = k) (k0 : 0 ≤ ki) (hk : k ≤ 5000) (st : Store) : iso m_law_ten [.int ki] st = .ok (.int (10 ^ k)) st := by
  obtain ⟨env, st', el, I⟩ := forL_cnt (t := .nm 2) (b := l1_law_ten) (I := fun i env st => st = [] ∧ ∃ o2, env = [some (.int ki), some (.int (10 ^ i)), o2]) k (rangeD 0 k) 0 [some (.int ki), some (.int 1), none] [] (by rw [rangeD_len]; omega) (fun d hd i env st hi I => by
    obtain ⟨rfl, o2, rfl⟩ := I
    refine ⟨_, rfl, ?_⟩
    have b1 : B 20001 ((10:Int) ^ i) := Nat.le_trans (PySem.intBits_pow_le (m := 4) (by decide) i) (by omega)
    have k1 := cMul_of b1 (show B 4 10 by decide) (by omega)
    simp [r_fnM, bR_ok, bR_exc, bR_bad, liftR_some, liftR_none, varR_some, r_var, r_c, r_kB2, r_kB1, r_bin, r_kUn, r_un, r_kC2, r_kC1, r_nil, r_cons, r_kTup, r_kLst, r_tup, r_lst, r_kCall, r_call, r_fn, r_fnl2, r_fnlR, r_fnl, r_kBl, r_mBl, r_truthR, r_kTruth, truth, r_mTruth, r_kIfT, r_kIfF, r_if, r_sif, r_cRet, r_and, r_or, r_kNot, r_not, r_kNotB, r_bnot, r_band, r_bor, r_true, r_kCh3T, r_kCh3F, r_kCh2, r_kCh1, r_chain, r_kOpt, r_pNone, r_pSome, r_kSl3, r_kSl2, r_kSl1, r_sl, r_kM2, r_kM1, r_m1, r_kOfL, r_kOfT, r_of, r_kRange1, r_kRange2, r_range, r_kZipL, r_kZipT, r_zip, r_kLc, r_lc, r_totR, r_mtot, r_setR, r_kLc2, r_kLc1T, r_kLc1F, r_kLc0, r_lcL0, r_lcL, r_kSeqN, r_kSeqR, r_kSeqB, r_kSeqC, r_seq, r_snil, r_brk, r_cont, r_asgR, r_kAsg, r_asg, r_kPar, r_par, r_kPar3, r_par3, r_kRet, r_ret, r_kExpr, r_expr, r_raise, r_kSet3, r_kSet2, r_kSet1, r_set, r_kFor, r_for, r_kForLN, r_kForLC, r_kForLB, r_kForLR, r_kForL0, r_forL0, r_forL, r_kEndN, r_kEndR, f1, f2, gIx, atI, ixN, gLen, gAbs, gInt, gTuple, gIsi, tyOf, isTy, gAdd, gMul, iBin_t, iMod_k, iDiv_k, iMul_k, iPow_k, iNeg, tAddO, lAdd, sAdd, lRep, tRep, gIsN, isNon, gIn, inF, eqF, gEqB, tp_non, tp_bl, tp_int, tp_str, tp_tup, tp_loc, allPy, PyData.eqv, PyData.eqvAll, Tg.set, Tgs.set, rBound, forR, forT, lcR, lcT, rangeD, wipeE, noLoc, noLocs, gAll, allBl, ieq, like_l, likeR, plains, plainD, likePs, likeP, r_nxR, r_nxLoc, r_zipR, r_zipR0, r_zipR1, r_nxZip, r_orR, r_orRx, r_kK2, r_kK1T, r_kK1F, r_kK0, r_lcKa0, r_lcKa1, r_lcK, r_kF1N, r_kF1C, r_kF1B, r_kF1R, r_kF0, r_forFa0, r_forFa1, r_forF, r_errW, r_errO, r_errE, r_err, gGcd, r_kRaiseL, r_raiseL, r_orT2T, r_orT2F, r_kOrT, r_orT, gBits, gRev, gStr, gSl, Mir.cutD, HT.sIx, OkN, l1_law_ten, k1]
    exact (Int.pow_succ ..).symm) ⟨rfl, none, by rw [Int.pow_zero]⟩
  rw [rangeD_len, Nat.zero_add] at I
  have fr := forR (lo := 0) (m := k) (t := .nm 2) (b := l1_law_ten) (env := [some (.int ki), some (.int 1), none]) (st := []) (by omega)
  rw [el] at fr
  obtain ⟨rfl, o2, rfl⟩ := I
  refine iso_pure ?_ rfl rfl st
  have hk2 : ki < 4611686018427387904 := by omega
  have hk3 : -4611686018427387904 ≤ ki := by omega
  simp [r_fnM, bR_ok, bR_exc, bR_bad, liftR_some, liftR_none, varR_some, r_var, r_c, r_kB2, r_kB1, r_bin, r_kUn, r_un, r_kC2, r_kC1, r_nil, r_cons, r_kTup, r_kLst, r_tup, r_lst, r_kCall, r_call, r_fn, r_fnl2, r_fnlR, r_fnl, r_kBl, r_mBl, r_truthR, r_kTruth, truth, r_mTruth, r_kIfT, r_kIfF, r_if, r_sif, r_cRet, r_and, r_or, r_kNot, r_not, r_kNotB, r_bnot, r_band, r_bor, r_true, r_kCh3T, r_kCh3F, r_kCh2, r_kCh1, r_chain, r_kOpt, r_pNone, r_pSome, r_kSl3, r_kSl2, r_kSl1, r_sl, r_kM2, r_kM1, r_m1, r_kOfL, r_kOfT, r_of, r_kRange1, r_kRange2, r_range, r_kZipL, r_kZipT, r_zip, r_kLc, r_lc, r_totR, r_mtot, r_setR, r_kLc2, r_kLc1T, r_kLc1F, r_kLc0, r_lcL0, r_lcL, r_kSeqN, r_kSeqR, r_kSeqB, r_kSeqC, r_seq, r_snil, r_brk, r_cont, r_asgR, r_kAsg, r_asg, r_kPar, r_par, r_kPar3, r_par3, r_kRet, r_ret, r_kExpr, r_expr, r_raise, r_kSet3, r_kSet2, r_kSet1, r_set, r_kFor, r_for, r_kForLN, r_kForLC, r_kForLB, r_kForLR, r_kForL0, r_kEndN, r_kEndR, f1, f2, gIx, atI, ixN, gLen, gAbs, gInt, gTuple, gIsi, tyOf, isTy, gAdd, gMul, iBin_t, iMod_k, iDiv_k, iMul_k, iPow_k, iNeg, tAddO, lAdd, sAdd, lRep, tRep, gIsN, isNon, gIn, inF, eqF, gEqB, tp_non, tp_bl, tp_int, tp_str, tp_tup, tp_loc, allPy, PyData.eqv, PyData.eqvAll, Tg.set, Tgs.set, rBound, forR, forT, lcR, lcT, wipeE, noLoc, noLocs, gAll, allBl, ieq, like_l, likeR, plains, plainD, likePs, likeP, r_nxR, r_nxLoc, r_zipR, r_zipR0, r_zipR1, r_nxZip, r_orR, r_orRx, r_kK2, r_kK1T, r_kK1F, r_kK0, r_lcKa0, r_lcKa1, r_lcK, r_kF1N, r_kF1C, r_kF1B, r_kF1R, r_kF0, r_forFa0, r_forFa1, r_forF, r_errW, r_errO, r_errE, r_err, gGcd, r_kRaiseL, r_raiseL, r_orT2T, r_orT2F, r_kOrT, r_orT, gBits, gRev, gStr, gSl, Mir.cutD, HT.sIx, Rets, m_law_ten, b_law_ten, fr, hk2, hk3, ek]
end K21
/-! K21M: what k21's helpers compute (own work). -/
namespace K21
/-- the ring of a discriminant n = 4 m + s: (x, u) stands for the pair (2 x + s u, u) -/
structure El where
  x : Int
  u : Int
variable {m s : Int}
def El.mul (m s : Int) (a b : El) : El := ⟨a.x * b.x + a.u * b.u * m, a.x * b.u + b.x * a.u + s * a.u * b.u⟩
def El.N (m s : Int) (a : El) : Int := a.x * a.x + s * a.x * a.u - m * a.u * a.u
def El.one : El := ⟨1, 0⟩
def El.neg (a : El) : El := ⟨-a.x, -a.u⟩
def El.conj (s : Int) (a : El) : El := ⟨a.x + s * a.u, -a.u⟩
def El.inv (m s : Int) (a : El) : El := if a.N m s = 1 then a.conj s else (a.conj s).neg
def El.t (s : Int) (a : El) : Int := 2 * a.x + s * a.u
def El.pw (m s : Int) (a : El) : Nat → El
  | 0 => .one
  | k + 1 => El.mul m s (El.pw m s a k) a
theorem El.mk_eq {x u y w : Int} (h1 : x = y) (h2 : u = w) : El.mk x u = El.mk y w := by subst h1; subst h2; rfl
theorem mul_assoc (hs : s * s = s) (a b c : El) : El.mul m s (El.mul m s a b) c = El.mul m s a (El.mul m s b c) := by
  unfold El.mul
  refine El.mk_eq ?_ ?_ <;> simp only <;> grind
theorem mul_comm (a b : El) : El.mul m s a b = El.mul m s b a := by
  unfold El.mul
  refine El.mk_eq ?_ ?_ <;> (try simp only) <;> grind
theorem one_mul (a : El) : El.mul m s .one a = a := by
  cases a
  unfold El.mul El.one
  refine El.mk_eq ?_ ?_ <;> simp only <;> grind
theorem mul_one (a : El) : El.mul m s a .one = a := by rw [mul_comm, one_mul]
theorem N_mul (hs : s * s = s) (a b : El) : (El.mul m s a b).N m s = a.N m s * b.N m s := by
  unfold El.N El.mul
  simp only
  grind
theorem pw_add (hs : s * s = s) (a : El) (i : Nat) : ∀ j, El.mul m s (El.pw m s a i) (El.pw m s a j) = El.pw m s a (i + j)
  | 0 => mul_one _
  | j + 1 => by
    show El.mul m s _ (El.mul m s _ a) = El.mul m s (El.pw m s a (i + j)) a
    rw [← mul_assoc hs, pw_add hs a i j]
theorem N_conj (hs : s * s = s) (a : El) : (a.conj s).N m s = a.N m s := by
  unfold El.N El.conj
  simp only
  grind
theorem N_neg (a : El) : a.neg.N m s = a.N m s := by
  unfold El.N El.neg
  simp only
  grind
theorem N_inv (hs : s * s = s) (a : El) : (a.inv m s).N m s = a.N m s := by
  unfold El.inv
  split
  · exact N_conj hs a
  · rw [N_neg, N_conj hs]
theorem inv_mul (hs : s * s = s) (a : El) (h : a.N m s = 1 ∨ a.N m s = -1) : El.mul m s (a.inv m s) a = .one := by
  have e : ∀ a : El, El.mul m s (a.conj s) a = ⟨a.N m s, 0⟩ := fun a => by
    unfold El.mul El.conj El.N
    refine El.mk_eq ?_ ?_ <;> simp only <;> grind
  have e2 : ∀ a : El, El.mul m s (a.conj s).neg a = ⟨-a.N m s, 0⟩ := fun a => by
    unfold El.mul El.conj El.N El.neg
    refine El.mk_eq ?_ ?_ <;> simp only <;> grind
  unfold El.inv
  by_cases h1 : a.N m s = 1
  · rw [if_pos h1, e, h1]; rfl
  · rw [if_neg h1, e2]
    have : a.N m s = -1 := by omega
    rw [this]; rfl
/-- the size of the pair -/
theorem size_eq (hs : s * s = s) (a : El) : a.t s * a.t s - (4 * m + s) * a.u * a.u = 4 * a.N m s := by
  unfold El.t El.N
  grind
theorem times1 (hs : s * s = s) (a b : El) : (a.t s * b.t s + (4 * m + s) * a.u * b.u).fdiv 2 = (El.mul m s a b).t s := by
  have : a.t s * b.t s + (4 * m + s) * a.u * b.u = 2 * (El.mul m s a b).t s := by
    unfold El.t El.mul
    grind
  rw [this]
  exact Int.mul_fdiv_cancel_left _ (by decide)
theorem times2 (hs : s * s = s) (a b : El) : (a.t s * b.u + a.u * b.t s).fdiv 2 = (El.mul m s a b).u := by
  have : a.t s * b.u + a.u * b.t s = 2 * (El.mul m s a b).u := by
    unfold El.t El.mul
    grind
  rw [this]
  exact Int.mul_fdiv_cancel_left _ (by decide)
/-- each unit stands so -/
theorem El.of (hs : s = 0 ∨ s = 1) {t u e : Int} (h : t * t - (4 * m + s) * u * u = 4 * e) : ∃ a : El, a.t s = t ∧ a.u = u := by
  have p : (t - s * u) % 2 = 0 := by
    have h1 : (t * t - s * u * u) % 2 = 0 := by
      have : t * t - s * u * u = 2 * (2 * (e + m * u * u)) := by grind
      omega
    have h2 : t % 2 = 0 ∨ t % 2 = 1 := by omega
    have h3 : u % 2 = 0 ∨ u % 2 = 1 := by omega
    have ft : (t * t) % 2 = t % 2 := by rcases h2 with q | q <;> simp [Int.mul_emod, q]
    have fu : (u * u) % 2 = u % 2 := by rcases h3 with q | q <;> simp [Int.mul_emod, q]
    rcases hs with rfl | rfl
    · simp at h1 ⊢; omega
    · simp at h1 ⊢; omega
  refine ⟨⟨(t - s * u) / 2, u⟩, ?_, rfl⟩
  unfold El.t
  simp only
  omega
open PySem _root_.L2 Mir PyProof.Rows
abbrev Sm (k : Int) : Prop := Builtin.Int.intBits k ≤ 100000
theorem Sm.of {k : Int} {n : Nat} (h : Builtin.Int.intBits k ≤ n) (hn : n ≤ 100000) : Sm k := Nat.le_trans h hn
abbrev p2 (a b : Int) : D := .tup [.int a, .int b]
structure Nu (n : Int) : Prop where
  lo : -10000000 ≤ n
  hi : n ≤ 10000000
  md : n.fmod 4 < 2
theorem Nu.b {n : Int} (h : Nu n) : B 24 n := PySem.intBits_le_iff.mpr (by have := h.lo; have := h.hi; omega)
theorem Nu.sm {n : Int} (h : Nu n) : Sm n := Nat.le_trans h.b (by decide)
theorem whole_i {k a b : Int} (st : Store) : iso m_is_whole [.int k, .int a, .int b] st = .ok (.bl (decide (a ≤ k) && decide (k ≤ b))) st := iso_pure (by
  by_cases h : a ≤ k
  · simp [fnM, sSeq, sNil, sIf, sAsg, sPar, sPar3, sRet, sSet, sExpr, sFor, sRaise, mraise, mbind, mpure, mbad, mtot, mBl, mTruth, truth, eBin, eUn, eVar, eC, eCall, eChain, eAnd, eOr, eNot, eIf, eTup, eLst, eFn, eLc, eSl, pNone, pSome, bNot, bAnd, bOr, aCons, aNil, lift, f1, f2, gIx, atI, ixN, gLen, gAbs, gInt, gTuple, gIsi, tyOf, isTy, gAdd, gMul, iBin_t, iMod_k, iDiv_k, iMul_k, iPow_k, iNeg, tAddO, gIsN, isNon, gIn, inF, eqF, gEqB, tp_non, tp_bl, tp_int, tp_str, tp_tup, tp_loc, allPy, PyData.eqv, PyData.eqvAll, Tg.set, Tgs.set, iOf, nxOf, iRange, rBound, forR, forT, lcR, lcT, forL, lcL, rangeD, wipeE, cTrue, noLoc, noLocs, gAll, allBl, ieq, Rets, m_is_whole, b_is_whole, h]
  · simp [fnM, sSeq, sNil, sIf, sAsg, sPar, sPar3, sRet, sSet, sExpr, sFor, sRaise, mraise, mbind, mpure, mbad, mtot, mBl, mTruth, truth, eBin, eUn, eVar, eC, eCall, eChain, eAnd, eOr, eNot, eIf, eTup, eLst, eFn, eLc, eSl, pNone, pSome, bNot, bAnd, bOr, aCons, aNil, lift, f1, f2, gIx, atI, ixN, gLen, gAbs, gInt, gTuple, gIsi, tyOf, isTy, gAdd, gMul, iBin_t, iMod_k, iDiv_k, iMul_k, iPow_k, iNeg, tAddO, gIsN, isNon, gIn, inF, eqF, gEqB, tp_non, tp_bl, tp_int, tp_str, tp_tup, tp_loc, allPy, PyData.eqv, PyData.eqvAll, Tg.set, Tgs.set, iOf, nxOf, iRange, rBound, forR, forT, lcR, lcT, forL, lcL, rangeD, wipeE, cTrue, noLoc, noLocs, gAll, allBl, ieq, Rets, m_is_whole, b_is_whole, h]) rfl rfl st
theorem is_integer_i {k : Int} (st : Store) : iso m_is_integer [.int k] st = .ok (.bl true) st := iso_pure (by simp [fnM, sSeq, sNil, sIf, sAsg, sPar, sPar3, sRet, sSet, sExpr, sFor, sRaise, mraise, mbind, mpure, mbad, mtot, mBl, mTruth, truth, eBin, eUn, eVar, eC, eCall, eChain, eAnd, eOr, eNot, eIf, eTup, eLst, eFn, eLc, eSl, pNone, pSome, bNot, bAnd, bOr, aCons, aNil, lift, f1, f2, gIx, atI, ixN, gLen, gAbs, gInt, gTuple, gIsi, tyOf, isTy, gAdd, gMul, iBin_t, iMod_k, iDiv_k, iMul_k, iPow_k, iNeg, tAddO, gIsN, isNon, gIn, inF, eqF, gEqB, tp_non, tp_bl, tp_int, tp_str, tp_tup, tp_loc, allPy, PyData.eqv, PyData.eqvAll, Tg.set, Tgs.set, iOf, nxOf, iRange, rBound, forR, forT, lcR, lcT, forL, lcL, rangeD, wipeE, cTrue, noLoc, noLocs, gAll, allBl, ieq, Rets, m_is_integer, b_is_integer]) rfl rfl st
theorem tof_i {ds : List D} {a b : Int} (hd : noLocs ds = true) (st : Store) : iso m_is_tuple_of [.tup ds, .int a, .int b] st = .ok (.bl (decide (a ≤ ds.length) && decide ((ds.length : Int) ≤ b))) st := iso_pure (by
  by_cases h : a ≤ (ds.length : Int)
  · simp [fnM, sSeq, sNil, sIf, sAsg, sPar, sPar3, sRet, sSet, sExpr, sFor, sRaise, mraise, mbind, mpure, mbad, mtot, mBl, mTruth, truth, eBin, eUn, eVar, eC, eCall, eChain, eAnd, eOr, eNot, eIf, eTup, eLst, eFn, eLc, eSl, pNone, pSome, bNot, bAnd, bOr, aCons, aNil, lift, f1, f2, gIx, atI, ixN, gLen, gAbs, gInt, gTuple, gIsi, tyOf, isTy, gAdd, gMul, iBin_t, iMod_k, iDiv_k, iMul_k, iPow_k, iNeg, tAddO, gIsN, isNon, gIn, inF, eqF, gEqB, tp_non, tp_bl, tp_int, tp_str, tp_tup, tp_loc, allPy, PyData.eqv, PyData.eqvAll, Tg.set, Tgs.set, iOf, nxOf, iRange, rBound, forR, forT, lcR, lcT, forL, lcL, rangeD, wipeE, cTrue, noLoc, noLocs, gAll, allBl, ieq, Rets, m_is_tuple_of, b_is_tuple_of, h]
  · simp [fnM, sSeq, sNil, sIf, sAsg, sPar, sPar3, sRet, sSet, sExpr, sFor, sRaise, mraise, mbind, mpure, mbad, mtot, mBl, mTruth, truth, eBin, eUn, eVar, eC, eCall, eChain, eAnd, eOr, eNot, eIf, eTup, eLst, eFn, eLc, eSl, pNone, pSome, bNot, bAnd, bOr, aCons, aNil, lift, f1, f2, gIx, atI, ixN, gLen, gAbs, gInt, gTuple, gIsi, tyOf, isTy, gAdd, gMul, iBin_t, iMod_k, iDiv_k, iMul_k, iPow_k, iNeg, tAddO, gIsN, isNon, gIn, inF, eqF, gEqB, tp_non, tp_bl, tp_int, tp_str, tp_tup, tp_loc, allPy, PyData.eqv, PyData.eqvAll, Tg.set, Tgs.set, iOf, nxOf, iRange, rBound, forR, forT, lcR, lcT, forL, lcL, rangeD, wipeE, cTrue, noLoc, noLocs, gAll, allBl, ieq, Rets, m_is_tuple_of, b_is_tuple_of, h]) (by simp [noLocs, noLoc, hd]) rfl st
theorem number_i {n : Int} (h : Nu n) (st : Store) : iso m_is_number [.int n] st = .ok (.bl true) st := iso_pure (by
  have h1 := h.lo
  have h2 := h.hi
  have h3 := h.md
  simp [fnM, sSeq, sNil, sIf, sAsg, sPar, sPar3, sRet, sSet, sExpr, sFor, sRaise, mraise, mbind, mpure, mbad, mtot, mBl, mTruth, truth, eBin, eUn, eVar, eC, eCall, eChain, eAnd, eOr, eNot, eIf, eTup, eLst, eFn, eLc, eSl, pNone, pSome, bNot, bAnd, bOr, aCons, aNil, lift, f1, f2, gIx, atI, ixN, gLen, gAbs, gInt, gTuple, gIsi, tyOf, isTy, gAdd, gMul, iBin_t, iMod_k, iDiv_k, iMul_k, iPow_k, iNeg, tAddO, gIsN, isNon, gIn, inF, eqF, gEqB, tp_non, tp_bl, tp_int, tp_str, tp_tup, tp_loc, allPy, PyData.eqv, PyData.eqvAll, Tg.set, Tgs.set, iOf, nxOf, iRange, rBound, forR, forT, lcR, lcT, forL, lcL, rangeD, wipeE, cTrue, noLoc, noLocs, gAll, allBl, ieq, Rets, m_is_number, b_is_number, whole_i, h1, h2, h3]) rfl rfl st
theorem need_number_i {n : Int} (h : Nu n) (st : Store) : iso m_need_number [.int n] st = .ok .non st := iso_pure (by simp [fnM, sSeq, sNil, sIf, sAsg, sPar, sPar3, sRet, sSet, sExpr, sFor, sRaise, mraise, mbind, mpure, mbad, mtot, mBl, mTruth, truth, eBin, eUn, eVar, eC, eCall, eChain, eAnd, eOr, eNot, eIf, eTup, eLst, eFn, eLc, eSl, pNone, pSome, bNot, bAnd, bOr, aCons, aNil, lift, f1, f2, gIx, atI, ixN, gLen, gAbs, gInt, gTuple, gIsi, tyOf, isTy, gAdd, gMul, iBin_t, iMod_k, iDiv_k, iMul_k, iPow_k, iNeg, tAddO, gIsN, isNon, gIn, inF, eqF, gEqB, tp_non, tp_bl, tp_int, tp_str, tp_tup, tp_loc, allPy, PyData.eqv, PyData.eqvAll, Tg.set, Tgs.set, iOf, nxOf, iRange, rBound, forR, forT, lcR, lcT, forL, lcL, rangeD, wipeE, cTrue, noLoc, noLocs, gAll, allBl, ieq, Rets, m_need_number, b_need_number, number_i h]) rfl rfl st
theorem disc_i {n : Int} (h : Nu n) (st : Store) : iso m_is_discriminant [.int n] st = .ok (.bl true) st := iso_pure (by simp [fnM, sSeq, sNil, sIf, sAsg, sPar, sPar3, sRet, sSet, sExpr, sFor, sRaise, mraise, mbind, mpure, mbad, mtot, mBl, mTruth, truth, eBin, eUn, eVar, eC, eCall, eChain, eAnd, eOr, eNot, eIf, eTup, eLst, eFn, eLc, eSl, pNone, pSome, bNot, bAnd, bOr, aCons, aNil, lift, f1, f2, gIx, atI, ixN, gLen, gAbs, gInt, gTuple, gIsi, tyOf, isTy, gAdd, gMul, iBin_t, iMod_k, iDiv_k, iMul_k, iPow_k, iNeg, tAddO, gIsN, isNon, gIn, inF, eqF, gEqB, tp_non, tp_bl, tp_int, tp_str, tp_tup, tp_loc, allPy, PyData.eqv, PyData.eqvAll, Tg.set, Tgs.set, iOf, nxOf, iRange, rBound, forR, forT, lcR, lcT, forL, lcL, rangeD, wipeE, cTrue, noLoc, noLocs, gAll, allBl, ieq, Rets, m_is_discriminant, b_is_discriminant, number_i h]) rfl rfl st
def Sz (n t u : Int) : Int := t * t - n * u * u
theorem size_i {n t u : Int} (hn : Nu n) (ht : Sm t) (hu : Sm u) (st : Store) : iso m_size_of [.int n, p2 t u] st = .ok (.int (Sz n t u)) st :=
  iso_pure (by have := hn.sm; simp (disch := (first | assumption | exact div2 _ | exact div4 _ | (show cMul _ _ = true; exact cMul_of (by (repeat' (first | assumption | apply b_add | apply b_sub | apply b_mul | apply b_neg | exact Nat.le_refl _))) (by (repeat' (first | assumption | apply b_add | apply b_sub | apply b_mul | apply b_neg | exact Nat.le_refl _))) (by decide)) | (simp; done) | fail)) [fnM, sSeq, sNil, sIf, sAsg, sPar, sPar3, sRet, sSet, sExpr, sFor, sRaise, mraise, mbind, mpure, mbad, mtot, mBl, mTruth, truth, eBin, eUn, eVar, eC, eCall, eChain, eAnd, eOr, eNot, eIf, eTup, eLst, eFn, eLc, eSl, pNone, pSome, bNot, bAnd, bOr, aCons, aNil, lift, f1, f2, gIx, atI, ixN, gLen, gAbs, gInt, gTuple, gIsi, tyOf, isTy, gAdd, gMul, iBin_t, iMod_k, iDiv_k, iMul_k, iPow_k, iNeg, tAddO, gIsN, isNon, gIn, inF, eqF, gEqB, tp_non, tp_bl, tp_int, tp_str, tp_tup, tp_loc, allPy, PyData.eqv, PyData.eqvAll, Tg.set, Tgs.set, iOf, nxOf, iRange, rBound, forR, forT, lcR, lcT, forL, lcL, rangeD, wipeE, cTrue, noLoc, noLocs, gAll, allBl, ieq, Rets, m_size_of, b_size_of, Sz]) rfl rfl st
theorem fits_i {n t u : Int} (hn : Nu n) (ht : Sm t) (hu : Sm u) (st : Store) : iso m_fits [.int n, p2 t u] st = .ok (.bl (decide (Sz n t u = 4 ∨ Sz n t u = -4))) st :=
  iso_pure (by
    simp [fnM, sSeq, sNil, sIf, sAsg, sPar, sPar3, sRet, sSet, sExpr, sFor, sRaise, mraise, mbind, mpure, mbad, mtot, mBl, mTruth, truth, eBin, eUn, eVar, eC, eCall, eChain, eAnd, eOr, eNot, eIf, eTup, eLst, eFn, eLc, eSl, pNone, pSome, bNot, bAnd, bOr, aCons, aNil, lift, f1, f2, gIx, atI, ixN, gLen, gAbs, gInt, gTuple, gIsi, tyOf, isTy, gAdd, gMul, iBin_t, iMod_k, iDiv_k, iMul_k, iPow_k, iNeg, tAddO, gIsN, isNon, gIn, inF, eqF, gEqB, tp_non, tp_bl, tp_int, tp_str, tp_tup, tp_loc, allPy, PyData.eqv, PyData.eqvAll, Tg.set, Tgs.set, iOf, nxOf, iRange, rBound, forR, forT, lcR, lcT, forL, lcL, rangeD, wipeE, cTrue, noLoc, noLocs, gAll, allBl, ieq, Rets, m_fits, b_fits, tof_i, is_integer_i, size_i hn ht hu, eq_comm]) rfl rfl st
/-! ### numbers as 4 m + s -/
structure Nm (n m s : Int) : Prop where
  eq : n = 4 * m + s
  hs : s = 0 ∨ s = 1
  lo : -64 < m
  hi : m < 64
theorem Nm.ss {n m s : Int} (h : Nm n m s) : s * s = s := by
  rcases h.hs with e | e
  · rw [e]; rfl
  · rw [e]; rfl
theorem Nm.nu {n m s : Int} (h : Nm n m s) : Nu n := by
  have h1 := h.eq
  have h2 := h.hs
  have h3 := h.lo
  have h4 := h.hi
  refine ⟨by omega, by omega, ?_⟩
  rw [Int.fmod_eq_emod_of_nonneg _ (by decide)]
  omega
theorem Nm.bm {n m s : Int} (h : Nm n m s) : B 6 m := bits_of (by have := h.lo; have := h.hi; omega)
theorem Nm.bs {n m s : Int} (h : Nm n m s) : B 1 s := by
  rcases h.hs with e | e
  · rw [e]; decide
  · rw [e]; decide
theorem Nm.m2 {n m s : Int} (h : Nm n m s) : n.fmod 2 = s := by
  have h1 := h.eq
  have h2 := h.hs
  rw [Int.fmod_eq_emod_of_nonneg _ (by decide)]
  omega
theorem Nm.d4 {n m s : Int} (h : Nm n m s) : (n - s).fdiv 4 = m := by
  have h1 := h.eq
  rw [Int.fdiv_eq_ediv_of_nonneg _ (by decide)]
  omega
structure EB (k : Nat) (a : El) : Prop where
  x : B k a.x
  u : B k a.u
theorem EB.le {j k : Nat} {a : El} (h : EB j a) (hk : j ≤ k) : EB k a := ⟨Nat.le_trans h.x hk, Nat.le_trans h.u hk⟩
variable {n m s : Int}
theorem EB.t {k : Nat} {a : El} (h : EB k a) (d : Nm n m s) : B (k + 3) (a.t s) := by
  unfold El.t
  exact Nat.le_trans (b_addm (b_mul (m := 2) (by decide) h.x) (b_mul d.bs h.u)) (by omega)
theorem EB.mul {j k : Nat} {a b : El} (h : EB j a) (g : EB k b) (d : Nm n m s) : EB (j + k + 10) (El.mul m s a b) := by
  unfold El.mul
  constructor
  · exact Nat.le_trans (b_addm (b_mul h.x g.x) (b_mul (b_mul h.u g.u) d.bm)) (by omega)
  · exact Nat.le_trans (b_addm (b_addm (b_mul h.x g.u) (b_mul g.x h.u)) (b_mul (b_mul d.bs h.u) g.u)) (by omega)
theorem EB.neg {k : Nat} {a : El} (h : EB k a) : EB k a.neg := ⟨b_neg h.x, b_neg h.u⟩
theorem EB.conj {k : Nat} {a : El} (h : EB k a) (d : Nm n m s) : EB (k + 3) (a.conj s) := ⟨Nat.le_trans (b_addm h.x (b_mul d.bs h.u)) (by omega), Nat.le_trans (b_neg h.u) (by omega)⟩
theorem EB.inv {k : Nat} {a : El} (h : EB k a) (d : Nm n m s) : EB (k + 3) (a.inv m s) := by
  unfold El.inv
  split
  · exact h.conj d
  · exact (h.conj d).neg
theorem EB.one : EB 2 El.one := ⟨by decide, by decide⟩
theorem EB.pw {k : Nat} {a : El} (h : EB k a) (d : Nm n m s) : ∀ i, EB (2 + i * (k + 10)) (El.pw m s a i)
  | 0 => EB.le EB.one (by omega)
  | i + 1 => (EB.mul (EB.pw h d i) h d).le (by rw [Nat.succ_mul]; omega)
abbrev dE (s : Int) (a : El) : D := p2 (a.t s) a.u
def Un (m s : Int) (a : El) : Prop := a.N m s = 1 ∨ a.N m s = -1
theorem Un.mul {a b : El} (d : Nm n m s) (h : Un m s a) (g : Un m s b) : Un m s (El.mul m s a b) := by
  unfold Un at *
  rw [N_mul d.ss]
  rcases h with h | h <;> rcases g with g | g <;> rw [h, g] <;> decide
theorem Un.inv {a : El} (d : Nm n m s) (h : Un m s a) : Un m s (a.inv m s) := by
  unfold Un at *
  rw [N_inv d.ss]; exact h
theorem Un.neg {a : El} (h : Un m s a) : Un m s a.neg := by
  unfold Un at *
  rw [N_neg]; exact h
theorem Un.one : Un m s El.one := .inl (by unfold El.N El.one; simp)
theorem Un.pw {a : El} (d : Nm n m s) (h : Un m s a) : ∀ i, Un m s (El.pw m s a i)
  | 0 => Un.one
  | i + 1 => Un.mul d (Un.pw d h i) h
theorem sz_e (d : Nm n m s) (a : El) : Sz n (a.t s) a.u = 4 * a.N m s := by
  unfold Sz
  rw [d.eq]
  exact size_eq d.ss a
theorem Un.sz {a : El} (d : Nm n m s) (h : Un m s a) : Sz n (a.t s) a.u = 4 ∨ Sz n (a.t s) a.u = -4 := by
  rw [sz_e d]
  unfold Un at h
  omega
variable {a b : El}
theorem fitsE (d : Nm n m s) (h : Un m s a) (g : EB 90000 a) (st : Store) : iso m_fits [.int n, dE s a] st = .ok (.bl true) st := by
  rw [fits_i d.nu (Nat.le_trans (g.t d) (by decide)) (Nat.le_trans g.u (by decide)), decide_eq_true (h.sz d)]
theorem need_unitE (d : Nm n m s) (h : Un m s a) (g : EB 90000 a) (st : Store) : iso m_need_unit [.int n, dE s a] st = .ok .non st := iso_pure (by
  simp [fnM, sSeq, sNil, sIf, sAsg, sPar, sPar3, sRet, sSet, sExpr, sFor, sRaise, mraise, mbind, mpure, mbad, mtot, mBl, mTruth, truth, eBin, eUn, eVar, eC, eCall, eChain, eAnd, eOr, eNot, eIf, eTup, eLst, eFn, eLc, eSl, pNone, pSome, bNot, bAnd, bOr, aCons, aNil, lift, f1, f2, gIx, atI, ixN, gLen, gAbs, gInt, gTuple, gIsi, tyOf, isTy, gAdd, gMul, iBin_t, iMod_k, iDiv_k, iMul_k, iPow_k, iNeg, tAddO, gIsN, isNon, gIn, inF, eqF, gEqB, tp_non, tp_bl, tp_int, tp_str, tp_tup, tp_loc, allPy, PyData.eqv, PyData.eqvAll, Tg.set, Tgs.set, iOf, nxOf, iRange, rBound, forR, forT, lcR, lcT, forL, lcL, rangeD, wipeE, cTrue, noLoc, noLocs, gAll, allBl, ieq, Rets, m_need_unit, b_need_unit, need_number_i d.nu, fitsE d h g]) rfl rfl st
theorem norm_ofE (d : Nm n m s) (g : EB 90000 a) (st : Store) : iso m_norm_of [.int n, dE s a] st = .ok (.int (a.N m s)) st := iso_pure (by
  have e := size_i d.nu (Nat.le_trans (g.t d) (by decide)) (Nat.le_trans g.u (by decide))
  have q : (4 * a.N m s).fdiv 4 = a.N m s := Int.mul_fdiv_cancel_left _ (by decide)
  simp [fnM, sSeq, sNil, sIf, sAsg, sPar, sPar3, sRet, sSet, sExpr, sFor, sRaise, mraise, mbind, mpure, mbad, mtot, mBl, mTruth, truth, eBin, eUn, eVar, eC, eCall, eChain, eAnd, eOr, eNot, eIf, eTup, eLst, eFn, eLc, eSl, pNone, pSome, bNot, bAnd, bOr, aCons, aNil, lift, f1, f2, gIx, atI, ixN, gLen, gAbs, gInt, gTuple, gIsi, tyOf, isTy, gAdd, gMul, iBin_t, iMod_k, iDiv_k, iMul_k, iPow_k, iNeg, tAddO, gIsN, isNon, gIn, inF, eqF, gEqB, tp_non, tp_bl, tp_int, tp_str, tp_tup, tp_loc, allPy, PyData.eqv, PyData.eqvAll, Tg.set, Tgs.set, iOf, nxOf, iRange, rBound, forR, forT, lcR, lcT, forL, lcL, rangeD, wipeE, cTrue, noLoc, noLocs, gAll, allBl, ieq, Rets, m_norm_of, b_norm_of, e, sz_e d, div4, q]) rfl rfl st
theorem timesE (d : Nm n m s) (g : EB 50000 a) (h : EB 50000 b) (st : Store) : iso m_times [.int n, dE s a, dE s b] st = .ok (dE s (El.mul m s a b)) st := iso_pure (by
  have e1 : (a.t s * b.t s + n * a.u * b.u).fdiv 2 = (El.mul m s a b).t s := by rw [d.eq]; exact times1 d.ss a b
  have e2 : (a.t s * b.u + a.u * b.t s).fdiv 2 = (El.mul m s a b).u := times2 d.ss a b
  have b1 := g.t d
  have b2 := h.t d
  have b3 := g.u
  have b4 := h.u
  have b5 := d.nu.b
  simp (disch := (first | assumption | exact div2 _ | exact div4 _ | (show cMul _ _ = true; exact cMul_of (by (repeat' (first | assumption | apply b_add | apply b_sub | apply b_mul | apply b_neg | exact Nat.le_refl _))) (by (repeat' (first | assumption | apply b_add | apply b_sub | apply b_mul | apply b_neg | exact Nat.le_refl _))) (by decide)) | (simp; done) | fail)) [fnM, sSeq, sNil, sIf, sAsg, sPar, sPar3, sRet, sSet, sExpr, sFor, sRaise, mraise, mbind, mpure, mbad, mtot, mBl, mTruth, truth, eBin, eUn, eVar, eC, eCall, eChain, eAnd, eOr, eNot, eIf, eTup, eLst, eFn, eLc, eSl, pNone, pSome, bNot, bAnd, bOr, aCons, aNil, lift, f1, f2, gIx, atI, ixN, gLen, gAbs, gInt, gTuple, gIsi, tyOf, isTy, gAdd, gMul, iBin_t, iMod_k, iDiv_k, iMul_k, iPow_k, iNeg, tAddO, gIsN, isNon, gIn, inF, eqF, gEqB, tp_non, tp_bl, tp_int, tp_str, tp_tup, tp_loc, allPy, PyData.eqv, PyData.eqvAll, Tg.set, Tgs.set, iOf, nxOf, iRange, rBound, forR, forT, lcR, lcT, forL, lcL, rangeD, wipeE, cTrue, noLoc, noLocs, gAll, allBl, ieq, Rets, m_times, b_times, div2, e1, e2]) rfl rfl st
theorem conj_t (d : Nm n m s) (a : El) : (a.conj s).t s = a.t s := by
  have := d.ss
  unfold El.conj El.t
  simp only
  grind
theorem neg_t (a : El) : a.neg.t s = -a.t s := by
  unfold El.neg El.t
  simp only
  grind
theorem inv_1 (d : Nm n m s) (h : a.N m s = 1) : (a.inv m s).t s = a.t s ∧ (a.inv m s).u = -a.u := by
  unfold El.inv
  rw [if_pos h]
  exact ⟨conj_t d a, rfl⟩
theorem inv_2 (d : Nm n m s) (h : ¬a.N m s = 1) : (a.inv m s).t s = -a.t s ∧ (a.inv m s).u = a.u := by
  unfold El.inv
  rw [if_neg h]
  refine ⟨by rw [neg_t, conj_t d], ?_⟩
  unfold El.neg El.conj
  simp
theorem backE (d : Nm n m s) (g : EB 90000 a) (st : Store) : iso m_back [.int n, dE s a] st = .ok (dE s (a.inv m s)) st := iso_pure (by
  by_cases h : a.N m s = 1
  · obtain ⟨h1, h2⟩ := inv_1 d h
    simp [fnM, sSeq, sNil, sIf, sAsg, sPar, sPar3, sRet, sSet, sExpr, sFor, sRaise, mraise, mbind, mpure, mbad, mtot, mBl, mTruth, truth, eBin, eUn, eVar, eC, eCall, eChain, eAnd, eOr, eNot, eIf, eTup, eLst, eFn, eLc, eSl, pNone, pSome, bNot, bAnd, bOr, aCons, aNil, lift, f1, f2, gIx, atI, ixN, gLen, gAbs, gInt, gTuple, gIsi, tyOf, isTy, gAdd, gMul, iBin_t, iMod_k, iDiv_k, iMul_k, iPow_k, iNeg, tAddO, gIsN, isNon, gIn, inF, eqF, gEqB, tp_non, tp_bl, tp_int, tp_str, tp_tup, tp_loc, allPy, PyData.eqv, PyData.eqvAll, Tg.set, Tgs.set, iOf, nxOf, iRange, rBound, forR, forT, lcR, lcT, forL, lcL, rangeD, wipeE, cTrue, noLoc, noLocs, gAll, allBl, ieq, Rets, m_back, b_back, norm_ofE d g, h, h1, h2]
  · obtain ⟨h1, h2⟩ := inv_2 d h
    simp [fnM, sSeq, sNil, sIf, sAsg, sPar, sPar3, sRet, sSet, sExpr, sFor, sRaise, mraise, mbind, mpure, mbad, mtot, mBl, mTruth, truth, eBin, eUn, eVar, eC, eCall, eChain, eAnd, eOr, eNot, eIf, eTup, eLst, eFn, eLc, eSl, pNone, pSome, bNot, bAnd, bOr, aCons, aNil, lift, f1, f2, gIx, atI, ixN, gLen, gAbs, gInt, gTuple, gIsi, tyOf, isTy, gAdd, gMul, iBin_t, iMod_k, iDiv_k, iMul_k, iPow_k, iNeg, tAddO, gIsN, isNon, gIn, inF, eqF, gEqB, tp_non, tp_bl, tp_int, tp_str, tp_tup, tp_loc, allPy, PyData.eqv, PyData.eqvAll, Tg.set, Tgs.set, iOf, nxOf, iRange, rBound, forR, forT, lcR, lcT, forL, lcL, rangeD, wipeE, cTrue, noLoc, noLocs, gAll, allBl, ieq, Rets, m_back, b_back, norm_ofE d g, h, h1, h2]) rfl rfl st
theorem oppE (st : Store) : iso m_opposite [dE s a] st = .ok (dE s a.neg) st := iso_pure (by
  simp [fnM, sSeq, sNil, sIf, sAsg, sPar, sPar3, sRet, sSet, sExpr, sFor, sRaise, mraise, mbind, mpure, mbad, mtot, mBl, mTruth, truth, eBin, eUn, eVar, eC, eCall, eChain, eAnd, eOr, eNot, eIf, eTup, eLst, eFn, eLc, eSl, pNone, pSome, bNot, bAnd, bOr, aCons, aNil, lift, f1, f2, gIx, atI, ixN, gLen, gAbs, gInt, gTuple, gIsi, tyOf, isTy, gAdd, gMul, iBin_t, iMod_k, iDiv_k, iMul_k, iPow_k, iNeg, tAddO, gIsN, isNon, gIn, inF, eqF, gEqB, tp_non, tp_bl, tp_int, tp_str, tp_tup, tp_loc, allPy, PyData.eqv, PyData.eqvAll, Tg.set, Tgs.set, iOf, nxOf, iRange, rBound, forR, forT, lcR, lcT, forL, lcL, rangeD, wipeE, cTrue, noLoc, noLocs, gAll, allBl, ieq, Rets, m_opposite, b_opposite, neg_t]
  rfl) rfl rfl st
theorem law_normE (d : Nm n m s) (h : Un m s a) (g : EB 90000 a) (st : Store) : iso m_law_norm [.int n, dE s a] st = .ok (.int (a.N m s)) st := iso_pure (by
  have b1 := g.t d
  have b2 := g.u
  have b3 := d.nu.b
  have c1 : cPow (a.t s) 2 = true := cPow_of (by decide) b1 (by decide)
  have c2 : cPow a.u 2 = true := cPow_of (by decide) b2 (by decide)
  have c3 : cMul n (a.u ^ 2) = true := cMul_of b3 (by rw [show a.u ^ 2 = a.u * a.u from pow2 _]; exact b_mul b2 b2) (by decide)
  have e : a.t s ^ 2 - n * a.u ^ 2 = 4 * a.N m s := by
    rw [show a.u ^ 2 = a.u * a.u from pow2 _, show a.t s ^ 2 = a.t s * a.t s from pow2 _, ← sz_e d]
    unfold Sz
    rw [Int.mul_assoc]
  rcases h with h | h
  · rw [h] at e
    simp [fnM, sSeq, sNil, sIf, sAsg, sPar, sPar3, sRet, sSet, sExpr, sFor, sRaise, mraise, mbind, mpure, mbad, mtot, mBl, mTruth, truth, eBin, eUn, eVar, eC, eCall, eChain, eAnd, eOr, eNot, eIf, eTup, eLst, eFn, eLc, eSl, pNone, pSome, bNot, bAnd, bOr, aCons, aNil, lift, f1, f2, gIx, atI, ixN, gLen, gAbs, gInt, gTuple, gIsi, tyOf, isTy, gAdd, gMul, iBin_t, iMod_k, iDiv_k, iMul_k, iPow_k, iNeg, tAddO, gIsN, isNon, gIn, inF, eqF, gEqB, tp_non, tp_bl, tp_int, tp_str, tp_tup, tp_loc, allPy, PyData.eqv, PyData.eqvAll, Tg.set, Tgs.set, iOf, nxOf, iRange, rBound, forR, forT, lcR, lcT, forL, lcL, rangeD, wipeE, cTrue, noLoc, noLocs, gAll, allBl, ieq, Rets, m_law_norm, b_law_norm, c1, c2, c3, e, h]
  · rw [h] at e
    simp [fnM, sSeq, sNil, sIf, sAsg, sPar, sPar3, sRet, sSet, sExpr, sFor, sRaise, mraise, mbind, mpure, mbad, mtot, mBl, mTruth, truth, eBin, eUn, eVar, eC, eCall, eChain, eAnd, eOr, eNot, eIf, eTup, eLst, eFn, eLc, eSl, pNone, pSome, bNot, bAnd, bOr, aCons, aNil, lift, f1, f2, gIx, atI, ixN, gLen, gAbs, gInt, gTuple, gIsi, tyOf, isTy, gAdd, gMul, iBin_t, iMod_k, iDiv_k, iMul_k, iPow_k, iNeg, tAddO, gIsN, isNon, gIn, inF, eqF, gEqB, tp_non, tp_bl, tp_int, tp_str, tp_tup, tp_loc, allPy, PyData.eqv, PyData.eqvAll, Tg.set, Tgs.set, iOf, nxOf, iRange, rBound, forR, forT, lcR, lcT, forL, lcL, rangeD, wipeE, cTrue, noLoc, noLocs, gAll, allBl, ieq, Rets, m_law_norm, b_law_norm, c1, c2, c3, e, h]) rfl rfl st
theorem El.xx (a : El) : (a.t s - s * a.u).fdiv 2 = a.x := by
  have : a.t s - s * a.u = 2 * a.x := by unfold El.t; omega
  rw [this]
  exact Int.mul_fdiv_cancel_left _ (by decide)
theorem law_timesE (d : Nm n m s) (g : EB 20000 a) (h : EB 20000 b) (st : Store) : iso m_law_times [.int n, dE s a, dE s b] st = .ok (dE s (El.mul m s a b)) st := iso_pure (by
  have b1 := g.t d
  have b2 := h.t d
  have b3 := g.u
  have b4 := h.u
  have b5 := d.nu.b
  have b6 := d.bs
  have b7 := d.bm
  have b8 := g.x
  have b9 := h.x
  have b10 : B 90000 (El.mul m s a b).u := Nat.le_trans (EB.mul g h d).u (by decide)
  have b11 : B 90000 (El.mul m s a b).x := Nat.le_trans (EB.mul g h d).x (by decide)
  have e1 : a.x * b.x + a.u * b.u * m = (El.mul m s a b).x := rfl
  have e2 : a.x * b.u + b.x * a.u + s * a.u * b.u = (El.mul m s a b).u := rfl
  have e3 : 2 * (El.mul m s a b).x + s * (El.mul m s a b).u = (El.mul m s a b).t s := rfl
  have m2 := d.m2
  have d4 := d.d4
  simp (disch := (first | assumption | exact div2 _ | exact div4 _ | (show cMul _ _ = true; exact cMul_of (by (repeat' (first | assumption | apply b_add | apply b_sub | apply b_mul | apply b_neg | exact Nat.le_refl _))) (by (repeat' (first | assumption | apply b_add | apply b_sub | apply b_mul | apply b_neg | exact Nat.le_refl _))) (by decide)) | (simp; done) | fail)) [fnM, sSeq, sNil, sIf, sAsg, sPar, sPar3, sRet, sSet, sExpr, sFor, sRaise, mraise, mbind, mpure, mbad, mtot, mBl, mTruth, truth, eBin, eUn, eVar, eC, eCall, eChain, eAnd, eOr, eNot, eIf, eTup, eLst, eFn, eLc, eSl, pNone, pSome, bNot, bAnd, bOr, aCons, aNil, lift, f1, f2, gIx, atI, ixN, gLen, gAbs, gInt, gTuple, gIsi, tyOf, isTy, gAdd, gMul, iBin_t, iMod_k, iDiv_k, iMul_k, iPow_k, iNeg, tAddO, gIsN, isNon, gIn, inF, eqF, gEqB, tp_non, tp_bl, tp_int, tp_str, tp_tup, tp_loc, allPy, PyData.eqv, PyData.eqvAll, Tg.set, Tgs.set, iOf, nxOf, iRange, rBound, forR, forT, lcR, lcT, forL, lcL, rangeD, wipeE, cTrue, noLoc, noLocs, gAll, allBl, ieq, Rets, m_law_times, b_law_times, div2, div4, m2, d4, El.xx, e1, e2, e3]) rfl rfl st
end K21
/-! K21N: powers of units (own work). -/
namespace K21
open PySem _root_.L2 Mir PyProof.Rows
variable {n m s : Int} {a b : El}
def exl (m s : Int) (a : El) (k : Int) : El := El.pw m s (if k < 0 then a.inv m s else a) k.natAbs
theorem pw_one (a : El) : El.pw m s a 1 = a := one_mul a
def LpI (n m s : Int) (a own : El) (k : Int) (i : Nat) (env : Mir.Env) (st : Store) : Prop := st = [] ∧ ∃ o5, env = [some (.int n), some (dE s a), some (.int k), some (dE s own), some (dE s (El.pw m s own i)), o5]
theorem lp_loop (d : Nm n m s) {own : El} {k : Int} {j : Nat} (g : EB 203 own) (k0 : j ≤ 10) : ∃ o5, forN (nxRange 0 j) (.nm 5) l1_law_power FUEL 0 [some (.int n), some (dE s a), some (.int k), some (dE s own), some (p2 2 0), none] [] = .ok (.next [some (.int n), some (dE s a), some (.int k), some (dE s own), some (dE s (El.pw m s own j)), o5]) [] := by
  obtain ⟨env, st', el, I⟩ := forL_cnt (t := .nm 5) (b := l1_law_power) (I := LpI n m s a own k) 10 (rangeD 0 j) 0 [some (.int n), some (dE s a), some (.int k), some (dE s own), some (p2 2 0), none] [] (by rw [rangeD_len]; omega) (fun w hw i env st hi I => by
    obtain ⟨rfl, o5, rfl⟩ := I
    refine ⟨_, rfl, ?_⟩
    have e := law_timesE (st := []) d (EB.le (g.pw d i) (by omega)) (g.le (by decide) : EB 20000 own)
    simp [r_fnM, bR_ok, bR_exc, bR_bad, liftR_some, liftR_none, varR_some, r_var, r_c, r_kB2, r_kB1, r_bin, r_kUn, r_un, r_kC2, r_kC1, r_nil, r_cons, r_kTup, r_kLst, r_tup, r_lst, r_kCall, r_call, r_fn, r_fnl2, r_fnlR, r_fnl, r_kBl, r_mBl, r_truthR, r_kTruth, truth, r_mTruth, r_kIfT, r_kIfF, r_if, r_sif, r_cRet, r_and, r_or, r_kNot, r_not, r_kNotB, r_bnot, r_band, r_bor, r_true, r_kCh3T, r_kCh3F, r_kCh2, r_kCh1, r_chain, r_kOpt, r_pNone, r_pSome, r_kSl3, r_kSl2, r_kSl1, r_sl, r_kM2, r_kM1, r_m1, r_kOfL, r_kOfT, r_of, r_kRange1, r_kRange2, r_range, r_kZipL, r_kZipT, r_zip, r_kLc, r_lc, r_totR, r_mtot, r_setR, r_kLc2, r_kLc1T, r_kLc1F, r_kLc0, r_lcL0, r_lcL, r_kSeqN, r_kSeqR, r_kSeqB, r_kSeqC, r_seq, r_snil, r_brk, r_cont, r_asgR, r_kAsg, r_asg, r_kPar, r_par, r_kPar3, r_par3, r_kRet, r_ret, r_kExpr, r_expr, r_raise, r_kSet3, r_kSet2, r_kSet1, r_set, r_kFor, r_for, r_kForLN, r_kForLC, r_kForLB, r_kForLR, r_kForL0, r_forL0, r_forL, r_kEndN, r_kEndR, f1, f2, gIx, atI, ixN, gLen, gAbs, gInt, gTuple, gIsi, tyOf, isTy, gAdd, gMul, iBin_t, iMod_k, iDiv_k, iMul_k, iPow_k, iNeg, tAddO, lAdd, sAdd, lRep, tRep, gIsN, isNon, gIn, inF, eqF, gEqB, tp_non, tp_bl, tp_int, tp_str, tp_tup, tp_loc, allPy, PyData.eqv, PyData.eqvAll, Tg.set, Tgs.set, rBound, forR, forT, lcR, lcT, rangeD, wipeE, noLoc, noLocs, gAll, allBl, ieq, like_l, likeR, plains, plainD, likePs, likeP, r_nxR, r_nxLoc, r_zipR, r_zipR0, r_zipR1, r_nxZip, r_orR, r_orRx, r_kK2, r_kK1T, r_kK1F, r_kK0, r_lcKa0, r_lcKa1, r_lcK, r_kF1N, r_kF1C, r_kF1B, r_kF1R, r_kF0, r_forFa0, r_forFa1, r_forF, r_errW, r_errO, r_errE, r_err, gGcd, r_kRaiseL, r_raiseL, r_orT2T, r_orT2F, r_kOrT, r_orT, gBits, gRev, gStr, gSl, Mir.cutD, HT.sIx, OkN, l1_law_power, e]
    exact ⟨rfl, _, rfl⟩) ⟨rfl, none, by simp [El.pw, El.one, El.t]⟩
  rw [rangeD_len, Nat.zero_add] at I
  obtain ⟨rfl, o5, rfl⟩ := I
  exact ⟨o5, by rw [forR (by omega)]; exact el⟩
theorem law_powerE (d : Nm n m s) (h : Un m s a) (g : EB 200 a) {k : Int} (k0 : -10 ≤ k) (k1 : k ≤ 10) (st : Store) : iso m_law_power [.int n, dE s a, .int k] st = .ok (dE s (exl m s a k)) st := by
  refine iso_pure ?_ rfl rfl st
  have ln := law_normE d h (g.le (by decide))
  unfold exl
  by_cases hn : k < 0
  · obtain ⟨q, rfl⟩ : ∃ q : Int, k = -q := ⟨-k, by omega⟩
    rw [if_pos hn, show (-q).natAbs = q.toNat by omega]
    have hk1 : q < 4611686018427387904 := by omega
    have hk2 : -4611686018427387904 ≤ q := by omega
    have hk3 : q ≤ 4611686018427387904 := by omega
    have hk4 : -4611686018427387904 < q := by omega
    have hk5 : 0 < q := by omega
    have hk6 : ((-q).natAbs : Int) = q := by omega
    have hk7 : (q.natAbs : Int) = q := by omega
    obtain ⟨o5, fr⟩ := lp_loop (a := a) (k := -q) d (g.inv d) (by omega : q.toNat ≤ 10)
    by_cases h1 : a.N m s = 1
    · obtain ⟨i1, i2⟩ := inv_1 d h1
      simp only [dE, p2, i1, i2] at fr
      simp [r_fnM, bR_ok, bR_exc, bR_bad, liftR_some, liftR_none, varR_some, r_var, r_c, r_kB2, r_kB1, r_bin, r_kUn, r_un, r_kC2, r_kC1, r_nil, r_cons, r_kTup, r_kLst, r_tup, r_lst, r_kCall, r_call, r_fn, r_fnl2, r_fnlR, r_fnl, r_kBl, r_mBl, r_truthR, r_kTruth, truth, r_mTruth, r_kIfT, r_kIfF, r_if, r_sif, r_cRet, r_and, r_or, r_kNot, r_not, r_kNotB, r_bnot, r_band, r_bor, r_true, r_kCh3T, r_kCh3F, r_kCh2, r_kCh1, r_chain, r_kOpt, r_pNone, r_pSome, r_kSl3, r_kSl2, r_kSl1, r_sl, r_kM2, r_kM1, r_m1, r_kOfL, r_kOfT, r_of, r_kRange1, r_kRange2, r_range, r_kZipL, r_kZipT, r_zip, r_kLc, r_lc, r_totR, r_mtot, r_setR, r_kLc2, r_kLc1T, r_kLc1F, r_kLc0, r_lcL0, r_lcL, r_kSeqN, r_kSeqR, r_kSeqB, r_kSeqC, r_seq, r_snil, r_brk, r_cont, r_asgR, r_kAsg, r_asg, r_kPar, r_par, r_kPar3, r_par3, r_kRet, r_ret, r_kExpr, r_expr, r_raise, r_kSet3, r_kSet2, r_kSet1, r_set, r_kFor, r_for, r_kForLN, r_kForLC, r_kForLB, r_kForLR, r_kForL0, r_kEndN, r_kEndR, f1, f2, gIx, atI, ixN, gLen, gAbs, gInt, gTuple, gIsi, tyOf, isTy, gAdd, gMul, iBin_t, iMod_k, iDiv_k, iMul_k, iPow_k, iNeg, tAddO, lAdd, sAdd, lRep, tRep, gIsN, isNon, gIn, inF, eqF, gEqB, tp_non, tp_bl, tp_int, tp_str, tp_tup, tp_loc, allPy, PyData.eqv, PyData.eqvAll, Tg.set, Tgs.set, rBound, forR, forT, lcR, lcT, wipeE, noLoc, noLocs, gAll, allBl, ieq, like_l, likeR, plains, plainD, likePs, likeP, r_nxR, r_nxLoc, r_zipR, r_zipR0, r_zipR1, r_nxZip, r_orR, r_orRx, r_kK2, r_kK1T, r_kK1F, r_kK0, r_lcKa0, r_lcKa1, r_lcK, r_kF1N, r_kF1C, r_kF1B, r_kF1R, r_kF0, r_forFa0, r_forFa1, r_forF, r_errW, r_errO, r_errE, r_err, gGcd, r_kRaiseL, r_raiseL, r_orT2T, r_orT2F, r_kOrT, r_orT, gBits, gRev, gStr, gSl, Mir.cutD, HT.sIx, Rets, m_law_power, b_law_power, hn, ln, h1, fr, hk1, hk2, hk3, hk4, hk5, hk6, hk7]
    · obtain ⟨i1, i2⟩ := inv_2 d h1
      simp only [dE, p2, i1, i2] at fr
      simp [r_fnM, bR_ok, bR_exc, bR_bad, liftR_some, liftR_none, varR_some, r_var, r_c, r_kB2, r_kB1, r_bin, r_kUn, r_un, r_kC2, r_kC1, r_nil, r_cons, r_kTup, r_kLst, r_tup, r_lst, r_kCall, r_call, r_fn, r_fnl2, r_fnlR, r_fnl, r_kBl, r_mBl, r_truthR, r_kTruth, truth, r_mTruth, r_kIfT, r_kIfF, r_if, r_sif, r_cRet, r_and, r_or, r_kNot, r_not, r_kNotB, r_bnot, r_band, r_bor, r_true, r_kCh3T, r_kCh3F, r_kCh2, r_kCh1, r_chain, r_kOpt, r_pNone, r_pSome, r_kSl3, r_kSl2, r_kSl1, r_sl, r_kM2, r_kM1, r_m1, r_kOfL, r_kOfT, r_of, r_kRange1, r_kRange2, r_range, r_kZipL, r_kZipT, r_zip, r_kLc, r_lc, r_totR, r_mtot, r_setR, r_kLc2, r_kLc1T, r_kLc1F, r_kLc0, r_lcL0, r_lcL, r_kSeqN, r_kSeqR, r_kSeqB, r_kSeqC, r_seq, r_snil, r_brk, r_cont, r_asgR, r_kAsg, r_asg, r_kPar, r_par, r_kPar3, r_par3, r_kRet, r_ret, r_kExpr, r_expr, r_raise, r_kSet3, r_kSet2, r_kSet1, r_set, r_kFor, r_for, r_kForLN, r_kForLC, r_kForLB, r_kForLR, r_kForL0, r_kEndN, r_kEndR, f1, f2, gIx, atI, ixN, gLen, gAbs, gInt, gTuple, gIsi, tyOf, isTy, gAdd, gMul, iBin_t, iMod_k, iDiv_k, iMul_k, iPow_k, iNeg, tAddO, lAdd, sAdd, lRep, tRep, gIsN, isNon, gIn, inF, eqF, gEqB, tp_non, tp_bl, tp_int, tp_str, tp_tup, tp_loc, allPy, PyData.eqv, PyData.eqvAll, Tg.set, Tgs.set, rBound, forR, forT, lcR, lcT, wipeE, noLoc, noLocs, gAll, allBl, ieq, like_l, likeR, plains, plainD, likePs, likeP, r_nxR, r_nxLoc, r_zipR, r_zipR0, r_zipR1, r_nxZip, r_orR, r_orRx, r_kK2, r_kK1T, r_kK1F, r_kK0, r_lcKa0, r_lcKa1, r_lcK, r_kF1N, r_kF1C, r_kF1B, r_kF1R, r_kF0, r_forFa0, r_forFa1, r_forF, r_errW, r_errO, r_errE, r_err, gGcd, r_kRaiseL, r_raiseL, r_orT2T, r_orT2F, r_kOrT, r_orT, gBits, gRev, gStr, gSl, Mir.cutD, HT.sIx, Rets, m_law_power, b_law_power, hn, ln, h1, fr, hk1, hk2, hk3, hk4, hk5, hk6, hk7]
  · rw [if_neg hn, show k.natAbs = k.toNat by omega]
    have hk1 : k < 4611686018427387904 := by omega
    have hk2 : -4611686018427387904 ≤ k := by omega
    have hk6 : (k.natAbs : Int) = k := by omega
    obtain ⟨o5, fr⟩ := lp_loop (a := a) (k := k) d (g.le (by decide) : EB 203 a) (by omega : k.toNat ≤ 10)
    simp [r_fnM, bR_ok, bR_exc, bR_bad, liftR_some, liftR_none, varR_some, r_var, r_c, r_kB2, r_kB1, r_bin, r_kUn, r_un, r_kC2, r_kC1, r_nil, r_cons, r_kTup, r_kLst, r_tup, r_lst, r_kCall, r_call, r_fn, r_fnl2, r_fnlR, r_fnl, r_kBl, r_mBl, r_truthR, r_kTruth, truth, r_mTruth, r_kIfT, r_kIfF, r_if, r_sif, r_cRet, r_and, r_or, r_kNot, r_not, r_kNotB, r_bnot, r_band, r_bor, r_true, r_kCh3T, r_kCh3F, r_kCh2, r_kCh1, r_chain, r_kOpt, r_pNone, r_pSome, r_kSl3, r_kSl2, r_kSl1, r_sl, r_kM2, r_kM1, r_m1, r_kOfL, r_kOfT, r_of, r_kRange1, r_kRange2, r_range, r_kZipL, r_kZipT, r_zip, r_kLc, r_lc, r_totR, r_mtot, r_setR, r_kLc2, r_kLc1T, r_kLc1F, r_kLc0, r_lcL0, r_lcL, r_kSeqN, r_kSeqR, r_kSeqB, r_kSeqC, r_seq, r_snil, r_brk, r_cont, r_asgR, r_kAsg, r_asg, r_kPar, r_par, r_kPar3, r_par3, r_kRet, r_ret, r_kExpr, r_expr, r_raise, r_kSet3, r_kSet2, r_kSet1, r_set, r_kFor, r_for, r_kForLN, r_kForLC, r_kForLB, r_kForLR, r_kForL0, r_kEndN, r_kEndR, f1, f2, gIx, atI, ixN, gLen, gAbs, gInt, gTuple, gIsi, tyOf, isTy, gAdd, gMul, iBin_t, iMod_k, iDiv_k, iMul_k, iPow_k, iNeg, tAddO, lAdd, sAdd, lRep, tRep, gIsN, isNon, gIn, inF, eqF, gEqB, tp_non, tp_bl, tp_int, tp_str, tp_tup, tp_loc, allPy, PyData.eqv, PyData.eqvAll, Tg.set, Tgs.set, rBound, forR, forT, lcR, lcT, wipeE, noLoc, noLocs, gAll, allBl, ieq, like_l, likeR, plains, plainD, likePs, likeP, r_nxR, r_nxLoc, r_zipR, r_zipR0, r_zipR1, r_nxZip, r_orR, r_orRx, r_kK2, r_kK1T, r_kK1F, r_kK0, r_lcKa0, r_lcKa1, r_lcK, r_kF1N, r_kF1C, r_kF1B, r_kF1R, r_kF0, r_forFa0, r_forFa1, r_forF, r_errW, r_errO, r_errE, r_err, gGcd, r_kRaiseL, r_raiseL, r_orT2T, r_orT2F, r_kOrT, r_orT, gBits, gRev, gStr, gSl, Mir.cutD, HT.sIx, Rets, m_law_power, b_law_power, hn, fr, hk1, hk2, hk6]
/-! ### the program's powers -/
theorem great_i (st : Store) : iso m_great [] st = .ok (.int (10 ^ 2000)) st := by
  have e : m_great [] [] = .ok (.int (10 ^ 2000)) (restR (m_great [] [])) := by kernel_rfl
  refine iso_pure (ds := []) ?_ rfl rfl st
  rw [e]
  rfl
theorem lt_far {z : Int} (h : B 6000 z) : ¬((10 : Int) ^ 2000 ≤ (if z < 0 then -z else z)) := by
  have h1 := PySem.intBits_le_iff.mp h
  have h2 : (2 : Nat) ^ 6000 < 10 ^ 2000 := by decide +kernel
  have h3 : ((10 ^ 2000 : Nat) : Int) = 10 ^ 2000 := by norm_cast
  split <;> omega
theorem bits0 : iso m_bits_of [.int 1] [] = .ok (.loc 1) [[.int 1], [.int 1]] := by kernel_rfl
theorem bits2 : iso m_bits_of [.int 2] [] = .ok (.loc 1) [[.int 0, .int 1], [.int 1, .int 0]] := by kernel_rfl
theorem bits3 : iso m_bits_of [.int 3] [] = .ok (.loc 1) [[.int 1, .int 1], [.int 1, .int 1]] := by kernel_rfl
theorem bits4 : iso m_bits_of [.int 4] [] = .ok (.loc 1) [[.int 0, .int 0, .int 1], [.int 1, .int 0, .int 0]] := by kernel_rfl
theorem bits5 : iso m_bits_of [.int 5] [] = .ok (.loc 1) [[.int 1, .int 0, .int 1], [.int 1, .int 0, .int 1]] := by kernel_rfl
theorem bits6 : iso m_bits_of [.int 6] [] = .ok (.loc 1) [[.int 0, .int 1, .int 1], [.int 1, .int 1, .int 0]] := by kernel_rfl
theorem bits7 : iso m_bits_of [.int 7] [] = .ok (.loc 1) [[.int 1, .int 1, .int 1], [.int 1, .int 1, .int 1]] := by kernel_rfl
theorem bits8 : iso m_bits_of [.int 8] [] = .ok (.loc 1) [[.int 0, .int 0, .int 0, .int 1], [.int 1, .int 0, .int 0, .int 0]] := by kernel_rfl
theorem raisedP (d : Nm n m s) (P : Nat → El) (p0 : P 0 = .one) (hT : ∀ j, El.mul m s (P j) (P j) = P (j + j)) (hS : ∀ j, El.mul m s (P j) (P 1) = P (j + 1)) (hB : ∀ j, j ≤ 8 → EB 5000 (P j)) {k : Int} (k0 : 0 ≤ k) (k1 : k ≤ 8) (st : Store) :
    iso m_raised [.int n, dE s (P 1), .int k, .int (10 ^ 2000)] st = .ok (dE s (P k.toNat)) st := by
  refine iso_pure ?_ rfl rfl st
  have T : ∀ j, j ≤ 8 → ∀ st, iso m_times [.int n, dE s (P j), dE s (P j)] st = .ok (dE s (P (j + j))) st := fun j hj st => by
    rw [timesE d ((hB j hj).le (by decide)) ((hB j hj).le (by decide)), hT]
  have S : ∀ j, j ≤ 8 → ∀ st, iso m_times [.int n, dE s (P j), dE s (P 1)] st = .ok (dE s (P (j + 1))) st := fun j hj st => by
    rw [timesE d ((hB j hj).le (by decide)) ((hB 1 (by decide)).le (by decide)), hS]
  have F : ∀ j, j ≤ 8 → ¬((10 : Int) ^ 2000 ≤ (if (P j).t s < 0 then -(P j).t s else (P j).t s)) := fun j hj => lt_far (Nat.le_trans ((hB j hj).t d) (by decide))
  have T1 := T 1 (by decide)
  have T2 := T 2 (by decide)
  have T3 := T 3 (by decide)
  have T4 := T 4 (by decide)
  have S2 := S 2 (by decide)
  have S4 := S 4 (by decide)
  have S6 := S 6 (by decide)
  have F1 := F 1 (by decide)
  have F2 := F 2 (by decide)
  have F3 := F 3 (by decide)
  have F4 := F 4 (by decide)
  have F5 := F 5 (by decide)
  have F6 := F 6 (by decide)
  have F7 := F 7 (by decide)
  have F8 := F 8 (by decide)
  generalize (10 : Int) ^ 2000 = W at *
  have hk : k = 0 ∨ k = 1 ∨ k = 2 ∨ k = 3 ∨ k = 4 ∨ k = 5 ∨ k = 6 ∨ k = 7 ∨ k = 8 := by omega
  rcases hk with rfl | rfl | rfl | rfl | rfl | rfl | rfl | rfl | rfl
  · simp [r_fnM, bR_ok, bR_exc, bR_bad, liftR_some, liftR_none, varR_some, r_var, r_c, r_kB2, r_kB1, r_bin, r_kUn, r_un, r_kC2, r_kC1, r_nil, r_cons, r_kTup, r_kLst, r_tup, r_lst, r_kCall, r_call, r_fn, r_fnl2, r_fnlR, r_fnl, r_kBl, r_mBl, r_truthR, r_kTruth, truth, r_mTruth, r_kIfT, r_kIfF, r_if, r_sif, r_cRet, r_and, r_or, r_kNot, r_not, r_kNotB, r_bnot, r_band, r_bor, r_true, r_kCh3T, r_kCh3F, r_kCh2, r_kCh1, r_chain, r_kOpt, r_pNone, r_pSome, r_kSl3, r_kSl2, r_kSl1, r_sl, r_kM2, r_kM1, r_m1, r_kOfL, r_kOfT, r_of, r_kRange1, r_kRange2, r_range, r_kZipL, r_kZipT, r_zip, r_kLc, r_lc, r_totR, r_mtot, r_setR, r_kLc2, r_kLc1T, r_kLc1F, r_kLc0, r_lcL0, r_lcL, r_kSeqN, r_kSeqR, r_kSeqB, r_kSeqC, r_seq, r_snil, r_brk, r_cont, r_asgR, r_kAsg, r_asg, r_kPar, r_par, r_kPar3, r_par3, r_kRet, r_ret, r_kExpr, r_expr, r_raise, r_kSet3, r_kSet2, r_kSet1, r_set, r_kFor, r_for, r_kForLN, r_kForLC, r_kForLB, r_kForLR, r_kForL0, r_forL0, r_forL, r_kEndN, r_kEndR, f1, f2, gIx, atI, ixN, gLen, gAbs, gInt, gTuple, gIsi, tyOf, isTy, gAdd, gMul, iBin_t, iMod_k, iDiv_k, iMul_k, iPow_k, iNeg, tAddO, lAdd, sAdd, lRep, tRep, gIsN, isNon, gIn, inF, eqF, gEqB, tp_non, tp_bl, tp_int, tp_str, tp_tup, tp_loc, allPy, PyData.eqv, PyData.eqvAll, Tg.set, Tgs.set, rBound, forR, forT, lcR, lcT, rangeD, wipeE, noLoc, noLocs, gAll, allBl, ieq, like_l, likeR, plains, plainD, likePs, likeP, r_nxR, r_nxLoc, r_zipR, r_zipR0, r_zipR1, r_nxZip, r_orR, r_orRx, r_kK2, r_kK1T, r_kK1F, r_kK0, r_lcKa0, r_lcKa1, r_lcK, r_kF1N, r_kF1C, r_kF1B, r_kF1R, r_kF0, r_forFa0, r_forFa1, r_forF, r_errW, r_errO, r_errE, r_err, gGcd, r_kRaiseL, r_raiseL, r_orT2T, r_orT2F, r_kOrT, r_orT, gBits, gRev, gStr, gSl, Mir.cutD, HT.sIx, Rets, m_raised, b_raised, p0, El.one, El.t]
  all_goals
    have FU := fun st env => @forU st env 5 (by decide)
    simp only [Int.not_le] at F1 F2 F3 F4 F5 F6 F7 F8
    simp only [Nat.reduceAdd] at T1 T2 T3 T4 S2 S4 S6
    simp [r_fnM, bR_ok, bR_exc, bR_bad, liftR_some, liftR_none, varR_some, r_var, r_c, r_kB2, r_kB1, r_bin, r_kUn, r_un, r_kC2, r_kC1, r_nil, r_cons, r_kTup, r_kLst, r_tup, r_lst, r_kCall, r_call, r_fn, r_fnl2, r_fnlR, r_fnl, r_kBl, r_mBl, r_truthR, r_kTruth, truth, r_mTruth, r_kIfT, r_kIfF, r_if, r_sif, r_cRet, r_and, r_or, r_kNot, r_not, r_kNotB, r_bnot, r_band, r_bor, r_true, r_kCh3T, r_kCh3F, r_kCh2, r_kCh1, r_chain, r_kOpt, r_pNone, r_pSome, r_kSl3, r_kSl2, r_kSl1, r_sl, r_kM2, r_kM1, r_m1, r_kOfL, r_kOfT, r_of, r_kRange1, r_kRange2, r_range, r_kZipL, r_kZipT, r_zip, r_kLc, r_lc, r_totR, r_mtot, r_setR, r_kLc2, r_kLc1T, r_kLc1F, r_kLc0, r_lcL0, r_lcL, r_kSeqN, r_kSeqR, r_kSeqB, r_kSeqC, r_seq, r_snil, r_brk, r_cont, r_asgR, r_kAsg, r_asg, r_kPar, r_par, r_kPar3, r_par3, r_kRet, r_ret, r_kExpr, r_expr, r_raise, r_kSet3, r_kSet2, r_kSet1, r_set, r_kFor, r_for, r_kForLN, r_kForLC, r_kForLB, r_kForLR, r_kForL0, r_forL0, r_forL, r_kEndN, r_kEndR, f1, f2, gIx, atI, ixN, gLen, gAbs, gInt, gTuple, gIsi, tyOf, isTy, gAdd, gMul, iBin_t, iMod_k, iDiv_k, iMul_k, iPow_k, iNeg, tAddO, lAdd, sAdd, lRep, tRep, gIsN, isNon, gIn, inF, eqF, gEqB, tp_non, tp_bl, tp_int, tp_str, tp_tup, tp_loc, allPy, PyData.eqv, PyData.eqvAll, Tg.set, Tgs.set, rBound, forR, forT, lcR, lcT, rangeD, wipeE, noLoc, noLocs, gAll, allBl, ieq, like_l, likeR, plains, plainD, likePs, likeP, r_nxR, r_nxLoc, r_zipR, r_zipR0, r_zipR1, r_nxZip, r_orR, r_orRx, r_kK2, r_kK1T, r_kK1F, r_kK0, r_lcKa0, r_lcKa1, r_lcK, r_kF1N, r_kF1C, r_kF1B, r_kF1R, r_kF0, r_forFa0, r_forFa1, r_forF, r_errW, r_errO, r_errE, r_err, gGcd, r_kRaiseL, r_raiseL, r_orT2T, r_orT2F, r_kOrT, r_orT, gBits, gRev, gStr, gSl, Mir.cutD, HT.sIx, Rets, m_raised, b_raised, l1_raised, FU, bits0, bits2, bits3, bits4, bits5, bits6, bits7, bits8, T1, T2, T3, T4, S2, S4, S6, F1, F2, F3, F4, F5, F6, F7, F8, Int.not_le.mpr F1, Int.not_le.mpr F2, Int.not_le.mpr F3, Int.not_le.mpr F4]
theorem raisedE (d : Nm n m s) (g : EB 400 a) {k : Int} (k0 : 0 ≤ k) (k1 : k ≤ 8) (st : Store) : iso m_raised [.int n, dE s a, .int k, .int (10 ^ 2000)] st = .ok (dE s (El.pw m s a k.toNat)) st := by
  have e := raisedP d (El.pw m s a) rfl (fun j => pw_add d.ss a j j) (fun j => by rw [pw_one]; rfl) (fun j hj => (g.pw d j).le (by omega)) k0 k1 st
  rwa [pw_one] at e
theorem need_whole_i {k lo hi : Int} (h1 : lo ≤ k) (h2 : k ≤ hi) (st : Store) : iso m_need_whole [.int k, .int lo, .int hi] st = .ok .non st := iso_pure (by
  simp [fnM, sSeq, sNil, sIf, sAsg, sPar, sPar3, sRet, sSet, sExpr, sFor, sRaise, mraise, mbind, mpure, mbad, mtot, mBl, mTruth, truth, eBin, eUn, eVar, eC, eCall, eChain, eAnd, eOr, eNot, eIf, eTup, eLst, eFn, eLc, eSl, pNone, pSome, bNot, bAnd, bOr, aCons, aNil, lift, f1, f2, gIx, atI, ixN, gLen, gAbs, gInt, gTuple, gIsi, tyOf, isTy, gAdd, gMul, iBin_t, iMod_k, iDiv_k, iMul_k, iPow_k, iNeg, tAddO, gIsN, isNon, gIn, inF, eqF, gEqB, tp_non, tp_bl, tp_int, tp_str, tp_tup, tp_loc, allPy, PyData.eqv, PyData.eqvAll, Tg.set, Tgs.set, iOf, nxOf, iRange, rBound, forR, forT, lcR, lcT, forL, lcL, rangeD, wipeE, cTrue, noLoc, noLocs, gAll, allBl, ieq, Rets, m_need_whole, b_need_whole, whole_i, h1, h2]) rfl rfl st
theorem unit_powerE (d : Nm n m s) (h : Un m s a) (g : EB 200 a) {k : Int} (k0 : -8 ≤ k) (k1 : k ≤ 8) (st : Store) : iso m_unit_power [.int n, dE s a, .int k] st = .ok (dE s (exl m s a k)) st := by
  refine iso_pure ?_ rfl rfl st
  have e1 := need_unitE d h (g.le (by decide))
  have e2 := need_whole_i (k := k) (lo := -10000) (hi := 10000) (by omega) (by omega)
  have e3 := backE d (g.le (by decide) : EB 90000 a)
  have e4 := great_i
  unfold exl
  by_cases hn : k < 0
  · obtain ⟨q, rfl⟩ : ∃ q : Int, k = -q := ⟨-k, by omega⟩
    rw [if_pos hn, show (-q).natAbs = q.toNat by omega]
    have e5 := raisedE d ((g.inv d).le (by decide)) (k := q) (by omega) (by omega)
    have hk : ¬(q ≤ 0) := by omega
    have hk5 : 0 < q := by omega
    have hk6 : ((-q).natAbs : Int) = q := by omega
    have hk7 : (q.natAbs : Int) = q := by omega
    generalize (10 : Int) ^ 2000 = W at *
    simp [r_fnM, bR_ok, bR_exc, bR_bad, liftR_some, liftR_none, varR_some, r_var, r_c, r_kB2, r_kB1, r_bin, r_kUn, r_un, r_kC2, r_kC1, r_nil, r_cons, r_kTup, r_kLst, r_tup, r_lst, r_kCall, r_call, r_fn, r_fnl2, r_fnlR, r_fnl, r_kBl, r_mBl, r_truthR, r_kTruth, truth, r_mTruth, r_kIfT, r_kIfF, r_if, r_sif, r_cRet, r_and, r_or, r_kNot, r_not, r_kNotB, r_bnot, r_band, r_bor, r_true, r_kCh3T, r_kCh3F, r_kCh2, r_kCh1, r_chain, r_kOpt, r_pNone, r_pSome, r_kSl3, r_kSl2, r_kSl1, r_sl, r_kM2, r_kM1, r_m1, r_kOfL, r_kOfT, r_of, r_kRange1, r_kRange2, r_range, r_kZipL, r_kZipT, r_zip, r_kLc, r_lc, r_totR, r_mtot, r_setR, r_kLc2, r_kLc1T, r_kLc1F, r_kLc0, r_lcL0, r_lcL, r_kSeqN, r_kSeqR, r_kSeqB, r_kSeqC, r_seq, r_snil, r_brk, r_cont, r_asgR, r_kAsg, r_asg, r_kPar, r_par, r_kPar3, r_par3, r_kRet, r_ret, r_kExpr, r_expr, r_raise, r_kSet3, r_kSet2, r_kSet1, r_set, r_kFor, r_for, r_kForLN, r_kForLC, r_kForLB, r_kForLR, r_kForL0, r_forL0, r_forL, r_kEndN, r_kEndR, f1, f2, gIx, atI, ixN, gLen, gAbs, gInt, gTuple, gIsi, tyOf, isTy, gAdd, gMul, iBin_t, iMod_k, iDiv_k, iMul_k, iPow_k, iNeg, tAddO, lAdd, sAdd, lRep, tRep, gIsN, isNon, gIn, inF, eqF, gEqB, tp_non, tp_bl, tp_int, tp_str, tp_tup, tp_loc, allPy, PyData.eqv, PyData.eqvAll, Tg.set, Tgs.set, rBound, forR, forT, lcR, lcT, rangeD, wipeE, noLoc, noLocs, gAll, allBl, ieq, like_l, likeR, plains, plainD, likePs, likeP, r_nxR, r_nxLoc, r_zipR, r_zipR0, r_zipR1, r_nxZip, r_orR, r_orRx, r_kK2, r_kK1T, r_kK1F, r_kK0, r_lcKa0, r_lcKa1, r_lcK, r_kF1N, r_kF1C, r_kF1B, r_kF1R, r_kF0, r_forFa0, r_forFa1, r_forF, r_errW, r_errO, r_errE, r_err, gGcd, r_kRaiseL, r_raiseL, r_orT2T, r_orT2F, r_kOrT, r_orT, gBits, gRev, gStr, gSl, Mir.cutD, HT.sIx, Rets, m_unit_power, b_unit_power, e1, e2, e3, e4, e5, hn, hk, hk5, hk6, hk7]
  · rw [if_neg hn, show k.natAbs = k.toNat by omega]
    have e5 := raisedE d (g.le (by decide)) (k := k) (by omega) (by omega)
    have hk : 0 ≤ k := by omega
    have hk6 : (k.natAbs : Int) = k := by omega
    generalize (10 : Int) ^ 2000 = W at *
    simp [r_fnM, bR_ok, bR_exc, bR_bad, liftR_some, liftR_none, varR_some, r_var, r_c, r_kB2, r_kB1, r_bin, r_kUn, r_un, r_kC2, r_kC1, r_nil, r_cons, r_kTup, r_kLst, r_tup, r_lst, r_kCall, r_call, r_fn, r_fnl2, r_fnlR, r_fnl, r_kBl, r_mBl, r_truthR, r_kTruth, truth, r_mTruth, r_kIfT, r_kIfF, r_if, r_sif, r_cRet, r_and, r_or, r_kNot, r_not, r_kNotB, r_bnot, r_band, r_bor, r_true, r_kCh3T, r_kCh3F, r_kCh2, r_kCh1, r_chain, r_kOpt, r_pNone, r_pSome, r_kSl3, r_kSl2, r_kSl1, r_sl, r_kM2, r_kM1, r_m1, r_kOfL, r_kOfT, r_of, r_kRange1, r_kRange2, r_range, r_kZipL, r_kZipT, r_zip, r_kLc, r_lc, r_totR, r_mtot, r_setR, r_kLc2, r_kLc1T, r_kLc1F, r_kLc0, r_lcL0, r_lcL, r_kSeqN, r_kSeqR, r_kSeqB, r_kSeqC, r_seq, r_snil, r_brk, r_cont, r_asgR, r_kAsg, r_asg, r_kPar, r_par, r_kPar3, r_par3, r_kRet, r_ret, r_kExpr, r_expr, r_raise, r_kSet3, r_kSet2, r_kSet1, r_set, r_kFor, r_for, r_kForLN, r_kForLC, r_kForLB, r_kForLR, r_kForL0, r_forL0, r_forL, r_kEndN, r_kEndR, f1, f2, gIx, atI, ixN, gLen, gAbs, gInt, gTuple, gIsi, tyOf, isTy, gAdd, gMul, iBin_t, iMod_k, iDiv_k, iMul_k, iPow_k, iNeg, tAddO, lAdd, sAdd, lRep, tRep, gIsN, isNon, gIn, inF, eqF, gEqB, tp_non, tp_bl, tp_int, tp_str, tp_tup, tp_loc, allPy, PyData.eqv, PyData.eqvAll, Tg.set, Tgs.set, rBound, forR, forT, lcR, lcT, rangeD, wipeE, noLoc, noLocs, gAll, allBl, ieq, like_l, likeR, plains, plainD, likePs, likeP, r_nxR, r_nxLoc, r_zipR, r_zipR0, r_zipR1, r_nxZip, r_orR, r_orRx, r_kK2, r_kK1T, r_kK1F, r_kK0, r_lcKa0, r_lcKa1, r_lcK, r_kF1N, r_kF1C, r_kF1B, r_kF1R, r_kF0, r_forFa0, r_forFa1, r_forF, r_errW, r_errO, r_errE, r_err, gGcd, r_kRaiseL, r_raiseL, r_orT2T, r_orT2F, r_kOrT, r_orT, gBits, gRev, gStr, gSl, Mir.cutD, HT.sIx, Rets, m_unit_power, b_unit_power, e1, e2, e3, e4, e5, hn, hk, hk6]
theorem unit_productE (d : Nm n m s) (h : Un m s a) (h' : Un m s b) (g : EB 50000 a) (g' : EB 50000 b) (st : Store) : iso m_unit_product [.int n, dE s a, dE s b] st = .ok (dE s (El.mul m s a b)) st := iso_pure (by
  simp [r_fnM, bR_ok, bR_exc, bR_bad, liftR_some, liftR_none, varR_some, r_var, r_c, r_kB2, r_kB1, r_bin, r_kUn, r_un, r_kC2, r_kC1, r_nil, r_cons, r_kTup, r_kLst, r_tup, r_lst, r_kCall, r_call, r_fn, r_fnl2, r_fnlR, r_fnl, r_kBl, r_mBl, r_truthR, r_kTruth, truth, r_mTruth, r_kIfT, r_kIfF, r_if, r_sif, r_cRet, r_and, r_or, r_kNot, r_not, r_kNotB, r_bnot, r_band, r_bor, r_true, r_kCh3T, r_kCh3F, r_kCh2, r_kCh1, r_chain, r_kOpt, r_pNone, r_pSome, r_kSl3, r_kSl2, r_kSl1, r_sl, r_kM2, r_kM1, r_m1, r_kOfL, r_kOfT, r_of, r_kRange1, r_kRange2, r_range, r_kZipL, r_kZipT, r_zip, r_kLc, r_lc, r_totR, r_mtot, r_setR, r_kLc2, r_kLc1T, r_kLc1F, r_kLc0, r_lcL0, r_lcL, r_kSeqN, r_kSeqR, r_kSeqB, r_kSeqC, r_seq, r_snil, r_brk, r_cont, r_asgR, r_kAsg, r_asg, r_kPar, r_par, r_kPar3, r_par3, r_kRet, r_ret, r_kExpr, r_expr, r_raise, r_kSet3, r_kSet2, r_kSet1, r_set, r_kFor, r_for, r_kForLN, r_kForLC, r_kForLB, r_kForLR, r_kForL0, r_forL0, r_forL, r_kEndN, r_kEndR, f1, f2, gIx, atI, ixN, gLen, gAbs, gInt, gTuple, gIsi, tyOf, isTy, gAdd, gMul, iBin_t, iMod_k, iDiv_k, iMul_k, iPow_k, iNeg, tAddO, lAdd, sAdd, lRep, tRep, gIsN, isNon, gIn, inF, eqF, gEqB, tp_non, tp_bl, tp_int, tp_str, tp_tup, tp_loc, allPy, PyData.eqv, PyData.eqvAll, Tg.set, Tgs.set, rBound, forR, forT, lcR, lcT, rangeD, wipeE, noLoc, noLocs, gAll, allBl, ieq, like_l, likeR, plains, plainD, likePs, likeP, r_nxR, r_nxLoc, r_zipR, r_zipR0, r_zipR1, r_nxZip, r_orR, r_orRx, r_kK2, r_kK1T, r_kK1F, r_kK0, r_lcKa0, r_lcKa1, r_lcK, r_kF1N, r_kF1C, r_kF1B, r_kF1R, r_kF0, r_forFa0, r_forFa1, r_forF, r_errW, r_errO, r_errE, r_err, gGcd, r_kRaiseL, r_raiseL, r_orT2T, r_orT2F, r_kOrT, r_orT, gBits, gRev, gStr, gSl, Mir.cutD, HT.sIx, Rets, m_unit_product, b_unit_product, need_unitE d h (g.le (by decide)), need_unitE d h' (g'.le (by decide)), timesE d g g']) rfl rfl st
theorem unit_normE (d : Nm n m s) (h : Un m s a) (g : EB 90000 a) (st : Store) : iso m_unit_norm [.int n, dE s a] st = .ok (.int (a.N m s)) st := iso_pure (by
  simp [r_fnM, bR_ok, bR_exc, bR_bad, liftR_some, liftR_none, varR_some, r_var, r_c, r_kB2, r_kB1, r_bin, r_kUn, r_un, r_kC2, r_kC1, r_nil, r_cons, r_kTup, r_kLst, r_tup, r_lst, r_kCall, r_call, r_fn, r_fnl2, r_fnlR, r_fnl, r_kBl, r_mBl, r_truthR, r_kTruth, truth, r_mTruth, r_kIfT, r_kIfF, r_if, r_sif, r_cRet, r_and, r_or, r_kNot, r_not, r_kNotB, r_bnot, r_band, r_bor, r_true, r_kCh3T, r_kCh3F, r_kCh2, r_kCh1, r_chain, r_kOpt, r_pNone, r_pSome, r_kSl3, r_kSl2, r_kSl1, r_sl, r_kM2, r_kM1, r_m1, r_kOfL, r_kOfT, r_of, r_kRange1, r_kRange2, r_range, r_kZipL, r_kZipT, r_zip, r_kLc, r_lc, r_totR, r_mtot, r_setR, r_kLc2, r_kLc1T, r_kLc1F, r_kLc0, r_lcL0, r_lcL, r_kSeqN, r_kSeqR, r_kSeqB, r_kSeqC, r_seq, r_snil, r_brk, r_cont, r_asgR, r_kAsg, r_asg, r_kPar, r_par, r_kPar3, r_par3, r_kRet, r_ret, r_kExpr, r_expr, r_raise, r_kSet3, r_kSet2, r_kSet1, r_set, r_kFor, r_for, r_kForLN, r_kForLC, r_kForLB, r_kForLR, r_kForL0, r_forL0, r_forL, r_kEndN, r_kEndR, f1, f2, gIx, atI, ixN, gLen, gAbs, gInt, gTuple, gIsi, tyOf, isTy, gAdd, gMul, iBin_t, iMod_k, iDiv_k, iMul_k, iPow_k, iNeg, tAddO, lAdd, sAdd, lRep, tRep, gIsN, isNon, gIn, inF, eqF, gEqB, tp_non, tp_bl, tp_int, tp_str, tp_tup, tp_loc, allPy, PyData.eqv, PyData.eqvAll, Tg.set, Tgs.set, rBound, forR, forT, lcR, lcT, rangeD, wipeE, noLoc, noLocs, gAll, allBl, ieq, like_l, likeR, plains, plainD, likePs, likeP, r_nxR, r_nxLoc, r_zipR, r_zipR0, r_zipR1, r_nxZip, r_orR, r_orRx, r_kK2, r_kK1T, r_kK1F, r_kK0, r_lcKa0, r_lcKa1, r_lcK, r_kF1N, r_kF1C, r_kF1B, r_kF1R, r_kF0, r_forFa0, r_forFa1, r_forF, r_errW, r_errO, r_errE, r_err, gGcd, r_kRaiseL, r_raiseL, r_orT2T, r_orT2F, r_kOrT, r_orT, gBits, gRev, gStr, gSl, Mir.cutD, HT.sIx, Rets, m_unit_norm, b_unit_norm, need_unitE d h g, norm_ofE d g]) rfl rfl st
theorem unit_oppE (d : Nm n m s) (h : Un m s a) (g : EB 90000 a) (st : Store) : iso m_unit_opposite [.int n, dE s a] st = .ok (dE s a.neg) st := iso_pure (by
  simp [r_fnM, bR_ok, bR_exc, bR_bad, liftR_some, liftR_none, varR_some, r_var, r_c, r_kB2, r_kB1, r_bin, r_kUn, r_un, r_kC2, r_kC1, r_nil, r_cons, r_kTup, r_kLst, r_tup, r_lst, r_kCall, r_call, r_fn, r_fnl2, r_fnlR, r_fnl, r_kBl, r_mBl, r_truthR, r_kTruth, truth, r_mTruth, r_kIfT, r_kIfF, r_if, r_sif, r_cRet, r_and, r_or, r_kNot, r_not, r_kNotB, r_bnot, r_band, r_bor, r_true, r_kCh3T, r_kCh3F, r_kCh2, r_kCh1, r_chain, r_kOpt, r_pNone, r_pSome, r_kSl3, r_kSl2, r_kSl1, r_sl, r_kM2, r_kM1, r_m1, r_kOfL, r_kOfT, r_of, r_kRange1, r_kRange2, r_range, r_kZipL, r_kZipT, r_zip, r_kLc, r_lc, r_totR, r_mtot, r_setR, r_kLc2, r_kLc1T, r_kLc1F, r_kLc0, r_lcL0, r_lcL, r_kSeqN, r_kSeqR, r_kSeqB, r_kSeqC, r_seq, r_snil, r_brk, r_cont, r_asgR, r_kAsg, r_asg, r_kPar, r_par, r_kPar3, r_par3, r_kRet, r_ret, r_kExpr, r_expr, r_raise, r_kSet3, r_kSet2, r_kSet1, r_set, r_kFor, r_for, r_kForLN, r_kForLC, r_kForLB, r_kForLR, r_kForL0, r_forL0, r_forL, r_kEndN, r_kEndR, f1, f2, gIx, atI, ixN, gLen, gAbs, gInt, gTuple, gIsi, tyOf, isTy, gAdd, gMul, iBin_t, iMod_k, iDiv_k, iMul_k, iPow_k, iNeg, tAddO, lAdd, sAdd, lRep, tRep, gIsN, isNon, gIn, inF, eqF, gEqB, tp_non, tp_bl, tp_int, tp_str, tp_tup, tp_loc, allPy, PyData.eqv, PyData.eqvAll, Tg.set, Tgs.set, rBound, forR, forT, lcR, lcT, rangeD, wipeE, noLoc, noLocs, gAll, allBl, ieq, like_l, likeR, plains, plainD, likePs, likeP, r_nxR, r_nxLoc, r_zipR, r_zipR0, r_zipR1, r_nxZip, r_orR, r_orRx, r_kK2, r_kK1T, r_kK1F, r_kK0, r_lcKa0, r_lcKa1, r_lcK, r_kF1N, r_kF1C, r_kF1B, r_kF1R, r_kF0, r_forFa0, r_forFa1, r_forF, r_errW, r_errO, r_errE, r_err, gGcd, r_kRaiseL, r_raiseL, r_orT2T, r_orT2F, r_kOrT, r_orT, gBits, gRev, gStr, gSl, Mir.cutD, HT.sIx, Rets, m_unit_opposite, b_unit_opposite, need_unitE d h g, oppE]) rfl rfl st
theorem unit_backE (d : Nm n m s) (h : Un m s a) (g : EB 90000 a) (st : Store) : iso m_unit_back [.int n, dE s a] st = .ok (dE s (a.inv m s)) st := iso_pure (by
  simp [r_fnM, bR_ok, bR_exc, bR_bad, liftR_some, liftR_none, varR_some, r_var, r_c, r_kB2, r_kB1, r_bin, r_kUn, r_un, r_kC2, r_kC1, r_nil, r_cons, r_kTup, r_kLst, r_tup, r_lst, r_kCall, r_call, r_fn, r_fnl2, r_fnlR, r_fnl, r_kBl, r_mBl, r_truthR, r_kTruth, truth, r_mTruth, r_kIfT, r_kIfF, r_if, r_sif, r_cRet, r_and, r_or, r_kNot, r_not, r_kNotB, r_bnot, r_band, r_bor, r_true, r_kCh3T, r_kCh3F, r_kCh2, r_kCh1, r_chain, r_kOpt, r_pNone, r_pSome, r_kSl3, r_kSl2, r_kSl1, r_sl, r_kM2, r_kM1, r_m1, r_kOfL, r_kOfT, r_of, r_kRange1, r_kRange2, r_range, r_kZipL, r_kZipT, r_zip, r_kLc, r_lc, r_totR, r_mtot, r_setR, r_kLc2, r_kLc1T, r_kLc1F, r_kLc0, r_lcL0, r_lcL, r_kSeqN, r_kSeqR, r_kSeqB, r_kSeqC, r_seq, r_snil, r_brk, r_cont, r_asgR, r_kAsg, r_asg, r_kPar, r_par, r_kPar3, r_par3, r_kRet, r_ret, r_kExpr, r_expr, r_raise, r_kSet3, r_kSet2, r_kSet1, r_set, r_kFor, r_for, r_kForLN, r_kForLC, r_kForLB, r_kForLR, r_kForL0, r_forL0, r_forL, r_kEndN, r_kEndR, f1, f2, gIx, atI, ixN, gLen, gAbs, gInt, gTuple, gIsi, tyOf, isTy, gAdd, gMul, iBin_t, iMod_k, iDiv_k, iMul_k, iPow_k, iNeg, tAddO, lAdd, sAdd, lRep, tRep, gIsN, isNon, gIn, inF, eqF, gEqB, tp_non, tp_bl, tp_int, tp_str, tp_tup, tp_loc, allPy, PyData.eqv, PyData.eqvAll, Tg.set, Tgs.set, rBound, forR, forT, lcR, lcT, rangeD, wipeE, noLoc, noLocs, gAll, allBl, ieq, like_l, likeR, plains, plainD, likePs, likeP, r_nxR, r_nxLoc, r_zipR, r_zipR0, r_zipR1, r_nxZip, r_orR, r_orRx, r_kK2, r_kK1T, r_kK1F, r_kK0, r_lcKa0, r_lcKa1, r_lcK, r_kF1N, r_kF1C, r_kF1B, r_kF1R, r_kF0, r_forFa0, r_forFa1, r_forF, r_errW, r_errO, r_errE, r_err, gGcd, r_kRaiseL, r_raiseL, r_orT2T, r_orT2F, r_kOrT, r_orT, gBits, gRev, gStr, gSl, Mir.cutD, HT.sIx, Rets, m_unit_back, b_unit_back, need_unitE d h g, backE d g]) rfl rfl st
theorem exl_m1 (a : El) : exl m s a (-1) = a.inv m s := pw_one _
end K21
/-! K21O: the drawn numbers and units (own work; the rows of numbers printed by a program of mine). -/
namespace K21
open PySem _root_.L2 Mir PyProof.Rows
variable {n m s : Int} {a b : El}
structure FreeN (n : Int) : Prop where
  nm : ∃ m s, Nm n m s
  n0 : 0 < n
  ff : ∀ st, iso m_is_free_in [.int n] st = .ok (.bl true) st
  lf : ∀ st, iso m_law_is_free [.int n] st = .ok (.bl true) st
  rt : ∃ r, (∀ st, iso m_law_root [.int n] st = .ok (.int r) st) ∧ ¬ r ^ 2 = n ∧ cPow r 2 = true
  fi : ∃ T U, (∀ st, iso m_law_first [.int n] st = .ok (p2 T U) st) ∧ (T * T - n * U * U = 4 ∨ T * T - n * U * U = -4) ∧ T.natAbs ≤ 5000 ∧ U.natAbs ≤ 5000
theorem nmOf (n : Int) (h : (decide (n % 4 = 0 ∨ n % 4 = 1) && decide (-200 < n) && decide (n < 200)) = true) : ∃ m s, Nm n m s := by
  simp only [Bool.and_eq_true, decide_eq_true_eq] at h
  exact ⟨n / 4, n % 4, by omega, by omega, by omega, by omega⟩
theorem FreeN.of (n T U r : Int) (h0 : (decide (n % 4 = 0 ∨ n % 4 = 1) && decide (-200 < n) && decide (n < 200)) = true) (h1 : m_is_free_in [.int n] [] = .ok (.bl true) (restR (m_is_free_in [.int n] [])))
    (h2 : m_law_is_free [.int n] [] = .ok (.bl true) (restR (m_law_is_free [.int n] []))) (h3 : m_law_root [.int n] [] = .ok (.int r) (restR (m_law_root [.int n] []))) (h4 : m_law_first [.int n] [] = .ok (p2 T U) (restR (m_law_first [.int n] [])))
    (h5 : (decide (0 < n) && !decide (r ^ 2 = n) && cPow r 2 && decide (T * T - n * U * U = 4 ∨ T * T - n * U * U = -4) && decide (T.natAbs ≤ 5000) && decide (U.natAbs ≤ 5000)) = true) : FreeN n := by
  simp only [Bool.and_eq_true, decide_eq_true_eq, Bool.not_eq_true', decide_eq_false_iff_not] at h5
  obtain ⟨⟨⟨⟨⟨a1, a2⟩, a3⟩, a4⟩, a5⟩, a6⟩ := h5
  exact ⟨nmOf n h0, a1, of_run h1 rfl rfl, of_run h2 rfl rfl, ⟨r, of_run h3 rfl rfl, a2, a3⟩, ⟨T, U, of_run h4 rfl rfl, a4, a5, a6⟩⟩
theorem fr_5 : FreeN 5 := FreeN.of 5 1 1 2 (by decide) (by kernel_rfl) (by kernel_rfl) (by kernel_rfl) (by kernel_rfl) (by decide +kernel)
theorem fr_8 : FreeN 8 := FreeN.of 8 2 1 2 (by decide) (by kernel_rfl) (by kernel_rfl) (by kernel_rfl) (by kernel_rfl) (by decide +kernel)
theorem fr_12 : FreeN 12 := FreeN.of 12 4 1 3 (by decide) (by kernel_rfl) (by kernel_rfl) (by kernel_rfl) (by kernel_rfl) (by decide +kernel)
theorem fr_13 : FreeN 13 := FreeN.of 13 3 1 3 (by decide) (by kernel_rfl) (by kernel_rfl) (by kernel_rfl) (by kernel_rfl) (by decide +kernel)
theorem fr_17 : FreeN 17 := FreeN.of 17 8 2 4 (by decide) (by kernel_rfl) (by kernel_rfl) (by kernel_rfl) (by kernel_rfl) (by decide +kernel)
theorem fr_20 : FreeN 20 := FreeN.of 20 4 1 4 (by decide) (by kernel_rfl) (by kernel_rfl) (by kernel_rfl) (by kernel_rfl) (by decide +kernel)
theorem fr_21 : FreeN 21 := FreeN.of 21 5 1 4 (by decide) (by kernel_rfl) (by kernel_rfl) (by kernel_rfl) (by kernel_rfl) (by decide +kernel)
theorem fr_24 : FreeN 24 := FreeN.of 24 10 2 4 (by decide) (by kernel_rfl) (by kernel_rfl) (by kernel_rfl) (by kernel_rfl) (by decide +kernel)
theorem fr_28 : FreeN 28 := FreeN.of 28 16 3 5 (by decide) (by kernel_rfl) (by kernel_rfl) (by kernel_rfl) (by kernel_rfl) (by decide +kernel)
theorem fr_29 : FreeN 29 := FreeN.of 29 5 1 5 (by decide) (by kernel_rfl) (by kernel_rfl) (by kernel_rfl) (by kernel_rfl) (by decide +kernel)
theorem fr_32 : FreeN 32 := FreeN.of 32 6 1 5 (by decide) (by kernel_rfl) (by kernel_rfl) (by kernel_rfl) (by kernel_rfl) (by decide +kernel)
theorem fr_33 : FreeN 33 := FreeN.of 33 46 8 5 (by decide) (by kernel_rfl) (by kernel_rfl) (by kernel_rfl) (by kernel_rfl) (by decide +kernel)
theorem fr_37 : FreeN 37 := FreeN.of 37 12 2 6 (by decide) (by kernel_rfl) (by kernel_rfl) (by kernel_rfl) (by kernel_rfl) (by decide +kernel)
theorem fr_40 : FreeN 40 := FreeN.of 40 6 1 6 (by decide) (by kernel_rfl) (by kernel_rfl) (by kernel_rfl) (by kernel_rfl) (by decide +kernel)
theorem fr_41 : FreeN 41 := FreeN.of 41 64 10 6 (by decide) (by kernel_rfl) (by kernel_rfl) (by kernel_rfl) (by kernel_rfl) (by decide +kernel)
theorem fr_44 : FreeN 44 := FreeN.of 44 20 3 6 (by decide) (by kernel_rfl) (by kernel_rfl) (by kernel_rfl) (by kernel_rfl) (by decide +kernel)
theorem fr_45 : FreeN 45 := FreeN.of 45 7 1 6 (by decide) (by kernel_rfl) (by kernel_rfl) (by kernel_rfl) (by kernel_rfl) (by decide +kernel)
theorem fr_53 : FreeN 53 := FreeN.of 53 7 1 7 (by decide) (by kernel_rfl) (by kernel_rfl) (by kernel_rfl) (by kernel_rfl) (by decide +kernel)
theorem fr_56 : FreeN 56 := FreeN.of 56 30 4 7 (by decide) (by kernel_rfl) (by kernel_rfl) (by kernel_rfl) (by kernel_rfl) (by decide +kernel)
theorem fr_57 : FreeN 57 := FreeN.of 57 302 40 7 (by decide) (by kernel_rfl) (by kernel_rfl) (by kernel_rfl) (by kernel_rfl) (by decide +kernel)
theorem fr_60 : FreeN 60 := FreeN.of 60 8 1 7 (by decide) (by kernel_rfl) (by kernel_rfl) (by kernel_rfl) (by kernel_rfl) (by decide +kernel)
theorem fr_61 : FreeN 61 := FreeN.of 61 39 5 7 (by decide) (by kernel_rfl) (by kernel_rfl) (by kernel_rfl) (by kernel_rfl) (by decide +kernel)
theorem fr_65 : FreeN 65 := FreeN.of 65 16 2 8 (by decide) (by kernel_rfl) (by kernel_rfl) (by kernel_rfl) (by kernel_rfl) (by decide +kernel)
theorem fr_69 : FreeN 69 := FreeN.of 69 25 3 8 (by decide) (by kernel_rfl) (by kernel_rfl) (by kernel_rfl) (by kernel_rfl) (by decide +kernel)
theorem fr_72 : FreeN 72 := FreeN.of 72 34 4 8 (by decide) (by kernel_rfl) (by kernel_rfl) (by kernel_rfl) (by kernel_rfl) (by decide +kernel)
theorem fr_73 : FreeN 73 := FreeN.of 73 2136 250 8 (by decide) (by kernel_rfl) (by kernel_rfl) (by kernel_rfl) (by kernel_rfl) (by decide +kernel)
theorem fr_77 : FreeN 77 := FreeN.of 77 9 1 8 (by decide) (by kernel_rfl) (by kernel_rfl) (by kernel_rfl) (by kernel_rfl) (by decide +kernel)
theorem fr_80 : FreeN 80 := FreeN.of 80 18 2 8 (by decide) (by kernel_rfl) (by kernel_rfl) (by kernel_rfl) (by kernel_rfl) (by decide +kernel)
theorem fr_85 : FreeN 85 := FreeN.of 85 9 1 9 (by decide) (by kernel_rfl) (by kernel_rfl) (by kernel_rfl) (by kernel_rfl) (by decide +kernel)
def freeNs : List Int := [5, 8, 12, 13, 17, 20, 21, 24, 28, 29, 32, 33, 37, 40, 41, 44, 45, 53, 56, 57, 60, 61, 65, 69, 72, 73, 77, 80, 85]
theorem fr_all : ∀ n ∈ freeNs, FreeN n := by
  unfold freeNs
  simp only [List.forall_mem_cons]
  exact ⟨fr_5, fr_8, fr_12, fr_13, fr_17, fr_20, fr_21, fr_24, fr_28, fr_29, fr_32, fr_33, fr_37, fr_40, fr_41, fr_44, fr_45, fr_53, fr_56, fr_57, fr_60, fr_61, fr_65, fr_69, fr_72, fr_73, fr_77, fr_80, fr_85, fun n h => absurd h (by simp)⟩
/-! ### the few units -/
def fewR (n : Int) (c : List D) : R Fl := forL (.nm 3) l1_law_unit (rangeD (-2) 5) [some (.loc 0), some (.int n), some (.loc 1), none, none, none] [c, []]
def fewG (n : Int) : Store := match fewR n [] with
  | .ok _ (_ :: g) => g
  | _ => []
def fewL (n : Int) : List D := ((fewG n)[10]?).getD []
def chk (n : Int) : D → Bool
  | .tup [.int t, .int u] => (decide (t * t - n * u * u = 4) || decide (t * t - n * u * u = -4)) && decide (t.natAbs ≤ 5000) && decide (u.natAbs ≤ 5000)
  | _ => false
structure FewN (n : Int) : Prop where
  nm : ∃ m s, Nm n m s
  n0 : ¬n = 0
  ff : ∀ st, iso m_is_free_in [.int n] st = .ok (.bl false) st
  lf : ∀ st, iso m_law_is_free [.int n] st = .ok (.bl false) st
  rt : n < 0 ∨ ∃ r, (∀ st, iso m_law_root [.int n] st = .ok (.int r) st) ∧ r ^ 2 = n ∧ cPow r 2 = true
  run : ∀ c : List D, fewR n c = .ok (.next [some (.loc 0), some (.int n), some (.loc 11), some (.int 2), none, none]) (c :: fewG n)
  at_ : (fewG n)[10]? = some (fewL n)
  nl : noLocs (fewL n) = true
  len : 0 < (fewL n).length ∧ (fewL n).length < 100
  ok : (fewL n).all (chk n) = true
theorem FewN.of (n r : Int) (h0 : (decide (n % 4 = 0 ∨ n % 4 = 1) && decide (-200 < n) && decide (n < 200)) = true) (h1 : m_is_free_in [.int n] [] = .ok (.bl false) (restR (m_is_free_in [.int n] [])))
    (h2 : m_law_is_free [.int n] [] = .ok (.bl false) (restR (m_law_is_free [.int n] []))) (h3 : n < 0 ∨ m_law_root [.int n] [] = .ok (.int r) (restR (m_law_root [.int n] []))) (h5 : (!decide (n = 0) && (decide (n < 0) || (decide (r ^ 2 = n) && cPow r 2))) = true)
    (h6 : ∀ c : List D, fewR n c = .ok (.next [some (.loc 0), some (.int n), some (.loc 11), some (.int 2), none, none]) (c :: fewG n)) (h7 : (fewG n)[10]? = some (fewL n)) (h8 : noLocs (fewL n) = true) (h9 : (decide (0 < (fewL n).length) && decide ((fewL n).length < 100)) = true) (h10 : (fewL n).all (chk n) = true) : FewN n := by
  simp only [Bool.and_eq_true, Bool.or_eq_true, decide_eq_true_eq, Bool.not_eq_true', decide_eq_false_iff_not] at h5 h9
  refine ⟨nmOf n h0, h5.1, of_run h1 rfl rfl, of_run h2 rfl rfl, ?_, h6, h7, h8, h9, h10⟩
  by_cases hn : n < 0
  · exact .inl hn
  · rcases h3 with h3 | h3
    · exact .inl h3
    · rcases h5.2 with q | q
      · exact .inl q
      · exact .inr ⟨r, of_run h3 rfl rfl, q.1, q.2⟩
theorem fw_m3 : FewN (-3) := FewN.of (-3) 0 (by decide) (by kernel_rfl) (by kernel_rfl) (.inl (by decide)) (by decide +kernel) (fun c => by kernel_rfl) (by kernel_rfl) (by kernel_rfl) (by kernel_rfl) (by kernel_rfl)
theorem fw_m4 : FewN (-4) := FewN.of (-4) 0 (by decide) (by kernel_rfl) (by kernel_rfl) (.inl (by decide)) (by decide +kernel) (fun c => by kernel_rfl) (by kernel_rfl) (by kernel_rfl) (by kernel_rfl) (by kernel_rfl)
theorem fw_m7 : FewN (-7) := FewN.of (-7) 0 (by decide) (by kernel_rfl) (by kernel_rfl) (.inl (by decide)) (by decide +kernel) (fun c => by kernel_rfl) (by kernel_rfl) (by kernel_rfl) (by kernel_rfl) (by kernel_rfl)
theorem fw_m8 : FewN (-8) := FewN.of (-8) 0 (by decide) (by kernel_rfl) (by kernel_rfl) (.inl (by decide)) (by decide +kernel) (fun c => by kernel_rfl) (by kernel_rfl) (by kernel_rfl) (by kernel_rfl) (by kernel_rfl)
theorem fw_m11 : FewN (-11) := FewN.of (-11) 0 (by decide) (by kernel_rfl) (by kernel_rfl) (.inl (by decide)) (by decide +kernel) (fun c => by kernel_rfl) (by kernel_rfl) (by kernel_rfl) (by kernel_rfl) (by kernel_rfl)
theorem fw_m20 : FewN (-20) := FewN.of (-20) 0 (by decide) (by kernel_rfl) (by kernel_rfl) (.inl (by decide)) (by decide +kernel) (fun c => by kernel_rfl) (by kernel_rfl) (by kernel_rfl) (by kernel_rfl) (by kernel_rfl)
theorem fw_1 : FewN (1) := FewN.of (1) 1 (by decide) (by kernel_rfl) (by kernel_rfl) (.inr (by kernel_rfl)) (by decide +kernel) (fun c => by kernel_rfl) (by kernel_rfl) (by kernel_rfl) (by kernel_rfl) (by kernel_rfl)
theorem fw_4 : FewN (4) := FewN.of (4) 2 (by decide) (by kernel_rfl) (by kernel_rfl) (.inr (by kernel_rfl)) (by decide +kernel) (fun c => by kernel_rfl) (by kernel_rfl) (by kernel_rfl) (by kernel_rfl) (by kernel_rfl)
theorem fw_9 : FewN (9) := FewN.of (9) 3 (by decide) (by kernel_rfl) (by kernel_rfl) (.inr (by kernel_rfl)) (by decide +kernel) (fun c => by kernel_rfl) (by kernel_rfl) (by kernel_rfl) (by kernel_rfl) (by kernel_rfl)
theorem fw_16 : FewN (16) := FewN.of (16) 4 (by decide) (by kernel_rfl) (by kernel_rfl) (.inr (by kernel_rfl)) (by decide +kernel) (fun c => by kernel_rfl) (by kernel_rfl) (by kernel_rfl) (by kernel_rfl) (by kernel_rfl)
theorem fw_25 : FewN (25) := FewN.of (25) 5 (by decide) (by kernel_rfl) (by kernel_rfl) (.inr (by kernel_rfl)) (by decide +kernel) (fun c => by kernel_rfl) (by kernel_rfl) (by kernel_rfl) (by kernel_rfl) (by kernel_rfl)
def fewNs : List Int := [-3, -4, -7, -8, -11, -20, 1, 4, 9, 16, 25]
theorem fw_all : ∀ n ∈ fewNs, FewN n := by
  unfold fewNs
  simp only [List.forall_mem_cons]
  exact ⟨fw_m3, fw_m4, fw_m7, fw_m8, fw_m11, fw_m20, fw_1, fw_4, fw_9, fw_16, fw_25, fun n h => absurd h (by simp)⟩
end K21
/-! K21S: draws of numbers and units; values near a unit (own work). -/
namespace K21
open PySem _root_.L2 Mir PyProof.Rows
variable {n m s : Int} {a b : El}
/-- what is known of a drawn number -/
def NumOk (n : Int) : Prop := ∃ m s f, Nm n m s ∧ (∀ st, iso m_is_free_in [.int n] st = .ok (.bl f) st) ∧ (∀ st, iso m_law_is_free [.int n] st = .ok (.bl f) st) ∧
  ∀ c : Cup, ∃ a c', Un m s a ∧ EB 200 a ∧ ∀ t, iso m_law_unit [.loc 0, .int n] (cs c :: t) = .ok (dE s a) (cs c' :: t)
theorem elOf (d : Nm n m s) {T U : Int} (h : T * T - n * U * U = 4 ∨ T * T - n * U * U = -4) (hT : T.natAbs ≤ 5000) (hU : U.natAbs ≤ 5000) : ∃ a, Un m s a ∧ EB 20 a ∧ a.t s = T ∧ a.u = U := by
  have h2 : ∃ e : Int, (e = 1 ∨ e = -1) ∧ T * T - (4 * m + s) * U * U = 4 * e := by
    rw [← d.eq]
    rcases h with h | h
    · exact ⟨1, .inl rfl, h⟩
    · exact ⟨-1, .inr rfl, h⟩
  obtain ⟨e, he, h2⟩ := h2
  obtain ⟨a, h3, h4⟩ := El.of d.hs h2
  have h5 := size_eq (m := m) d.ss a
  rw [h3, h4, h2] at h5
  have h6 : a.N m s = e := by omega
  refine ⟨a, ?_, ⟨bits_of ?_, bits_of ?_⟩, h3, h4⟩
  · unfold Un; rw [h6]; exact he
  · unfold El.t at h3
    rcases d.hs with e | e
    · rw [e] at h3; omega
    · rw [e] at h3; omega
  · omega
theorem Un.exl (d : Nm n m s) (h : Un m s a) (k : Int) : Un m s (exl m s a k) := by
  unfold K21.exl
  split
  · exact Un.pw d (Un.inv d h) _
  · exact Un.pw d h _
theorem EB.exl (d : Nm n m s) (h : EB 20 a) {k : Int} (hk : k.natAbs ≤ 5) : EB 200 (exl m s a k) := by
  unfold K21.exl
  split
  · exact ((h.inv d).pw d _).le (by omega)
  · exact (h.pw d _).le (by omega)
theorem free_ok {n : Int} (F : FreeN n) : NumOk n := by
  obtain ⟨m, s, d⟩ := F.nm
  obtain ⟨r, r1, r2, r3⟩ := F.rt
  obtain ⟨T, U, f1, f2, f3, f4⟩ := F.fi
  have n0 := F.n0
  refine ⟨m, s, true, d, F.ff, F.lf, fun c => ?_⟩
  obtain ⟨a, ua, ba, rfl, rfl⟩ := elOf d f2 f3 f4
  obtain ⟨v, c1, v0, v1, e1⟩ := roll_x c 11 (by decide) (by decide)
  obtain ⟨w, c2, w0, w1, e2⟩ := roll_x c1 2 (by decide) (by decide)
  have p := law_powerE d ua (ba.le (by decide)) (k := v - 5) (by omega) (by omega)
  have ue := Un.exl d ua (v - 5)
  have be := EB.exl d ba (k := v - 5) (by omega)
  have h0 : ¬n = 0 := by omega
  have h1 : ¬n < 0 := by omega
  by_cases hw : w = 0
  · refine ⟨exl m s a (v - 5), c2, ue, be, iso_cup ?_ rfl rfl⟩
    simp [r_fnM, bR_ok, bR_exc, bR_bad, liftR_some, liftR_none, varR_some, r_var, r_c, r_kB2, r_kB1, r_bin, r_kUn, r_un, r_kC2, r_kC1, r_nil, r_cons, r_kTup, r_kLst, r_tup, r_lst, r_kCall, r_call, r_fn, r_fnl2, r_fnlR, r_fnl, r_kBl, r_mBl, r_truthR, r_kTruth, truth, r_mTruth, r_kIfT, r_kIfF, r_if, r_sif, r_cRet, r_and, r_or, r_kNot, r_not, r_kNotB, r_bnot, r_band, r_bor, r_true, r_kCh3T, r_kCh3F, r_kCh2, r_kCh1, r_chain, r_kOpt, r_pNone, r_pSome, r_kSl3, r_kSl2, r_kSl1, r_sl, r_kM2, r_kM1, r_m1, r_kOfL, r_kOfT, r_of, r_kRange1, r_kRange2, r_range, r_kZipL, r_kZipT, r_zip, r_kLc, r_lc, r_totR, r_mtot, r_setR, r_kLc2, r_kLc1T, r_kLc1F, r_kLc0, r_lcL0, r_lcL, r_kSeqN, r_kSeqR, r_kSeqB, r_kSeqC, r_seq, r_snil, r_brk, r_cont, r_asgR, r_kAsg, r_asg, r_kPar, r_par, r_kPar3, r_par3, r_kRet, r_ret, r_kExpr, r_expr, r_raise, r_kSet3, r_kSet2, r_kSet1, r_set, r_kFor, r_for, r_kForLN, r_kForLC, r_kForLB, r_kForLR, r_kForL0, r_forL0, r_forL, r_kEndN, r_kEndR, f1, f2, gIx, atI, ixN, gLen, gAbs, gInt, gTuple, gIsi, tyOf, isTy, gAdd, gMul, iBin_t, iMod_k, iDiv_k, iMul_k, iPow_k, iNeg, tAddO, lAdd, sAdd, lRep, tRep, gIsN, isNon, gIn, inF, eqF, gEqB, tp_non, tp_bl, tp_int, tp_str, tp_tup, tp_loc, allPy, PyData.eqv, PyData.eqvAll, Tg.set, Tgs.set, rBound, forR, forT, lcR, lcT, rangeD, wipeE, noLoc, noLocs, gAll, allBl, ieq, like_l, likeR, plains, plainD, likePs, likeP, r_nxR, r_nxLoc, r_zipR, r_zipR0, r_zipR1, r_nxZip, r_orR, r_orRx, r_kK2, r_kK1T, r_kK1F, r_kK0, r_lcKa0, r_lcKa1, r_lcK, r_kF1N, r_kF1C, r_kF1B, r_kF1R, r_kF0, r_forFa0, r_forFa1, r_forF, r_errW, r_errO, r_errE, r_err, gGcd, r_kRaiseL, r_raiseL, r_orT2T, r_orT2F, r_kOrT, r_orT, gBits, gRev, gStr, gSl, Mir.cutD, HT.sIx, RetsC, m_law_unit, b_law_unit, h0, h1, r1, r2, r3, f1, e1, e2, p, hw]
  · refine ⟨(exl m s a (v - 5)).neg, c2, ue.neg, be.neg, iso_cup ?_ rfl rfl⟩
    have e3 : (exl m s a (v - 5)).neg.u = -(exl m s a (v - 5)).u := rfl
    simp [r_fnM, bR_ok, bR_exc, bR_bad, liftR_some, liftR_none, varR_some, r_var, r_c, r_kB2, r_kB1, r_bin, r_kUn, r_un, r_kC2, r_kC1, r_nil, r_cons, r_kTup, r_kLst, r_tup, r_lst, r_kCall, r_call, r_fn, r_fnl2, r_fnlR, r_fnl, r_kBl, r_mBl, r_truthR, r_kTruth, truth, r_mTruth, r_kIfT, r_kIfF, r_if, r_sif, r_cRet, r_and, r_or, r_kNot, r_not, r_kNotB, r_bnot, r_band, r_bor, r_true, r_kCh3T, r_kCh3F, r_kCh2, r_kCh1, r_chain, r_kOpt, r_pNone, r_pSome, r_kSl3, r_kSl2, r_kSl1, r_sl, r_kM2, r_kM1, r_m1, r_kOfL, r_kOfT, r_of, r_kRange1, r_kRange2, r_range, r_kZipL, r_kZipT, r_zip, r_kLc, r_lc, r_totR, r_mtot, r_setR, r_kLc2, r_kLc1T, r_kLc1F, r_kLc0, r_lcL0, r_lcL, r_kSeqN, r_kSeqR, r_kSeqB, r_kSeqC, r_seq, r_snil, r_brk, r_cont, r_asgR, r_kAsg, r_asg, r_kPar, r_par, r_kPar3, r_par3, r_kRet, r_ret, r_kExpr, r_expr, r_raise, r_kSet3, r_kSet2, r_kSet1, r_set, r_kFor, r_for, r_kForLN, r_kForLC, r_kForLB, r_kForLR, r_kForL0, r_forL0, r_forL, r_kEndN, r_kEndR, f1, f2, gIx, atI, ixN, gLen, gAbs, gInt, gTuple, gIsi, tyOf, isTy, gAdd, gMul, iBin_t, iMod_k, iDiv_k, iMul_k, iPow_k, iNeg, tAddO, lAdd, sAdd, lRep, tRep, gIsN, isNon, gIn, inF, eqF, gEqB, tp_non, tp_bl, tp_int, tp_str, tp_tup, tp_loc, allPy, PyData.eqv, PyData.eqvAll, Tg.set, Tgs.set, rBound, forR, forT, lcR, lcT, rangeD, wipeE, noLoc, noLocs, gAll, allBl, ieq, like_l, likeR, plains, plainD, likePs, likeP, r_nxR, r_nxLoc, r_zipR, r_zipR0, r_zipR1, r_nxZip, r_orR, r_orRx, r_kK2, r_kK1T, r_kK1F, r_kK0, r_lcKa0, r_lcKa1, r_lcK, r_kF1N, r_kF1C, r_kF1B, r_kF1R, r_kF0, r_forFa0, r_forFa1, r_forF, r_errW, r_errO, r_errE, r_err, gGcd, r_kRaiseL, r_raiseL, r_orT2T, r_orT2F, r_kOrT, r_orT, gBits, gRev, gStr, gSl, Mir.cutD, HT.sIx, RetsC, m_law_unit, b_law_unit, h0, h1, r1, r2, r3, f1, e1, e2, p, hw, neg_t, e3]
theorem few_ok {n : Int} (F : FewN n) : NumOk n := by
  obtain ⟨m, s, d⟩ := F.nm
  refine ⟨m, s, false, d, F.ff, F.lf, fun c => ?_⟩
  have n0 := F.n0
  have run := F.run (cs c)
  unfold fewR at run
  obtain ⟨x, hx, c1, e1⟩ := some_x c (fewL n) F.nl F.len.1 (Nat.lt_trans F.len.2 (by decide))
  have e1 := e1 (fewG n) 10 F.at_
  have ck := List.all_eq_true.mp F.ok x hx
  obtain ⟨t, u, rfl, h1, h2, h3⟩ : ∃ t u, x = p2 t u ∧ (t * t - n * u * u = 4 ∨ t * t - n * u * u = -4) ∧ t.natAbs ≤ 5000 ∧ u.natAbs ≤ 5000 := by
    unfold chk at ck
    split at ck
    · simp only [Bool.and_eq_true, Bool.or_eq_true, decide_eq_true_eq] at ck
      exact ⟨_, _, rfl, ck.1.1, ck.1.2, ck.2⟩
    · cases ck
  obtain ⟨a, ua, ba, rfl, rfl⟩ := elOf d h1 h2 h3
  refine ⟨a, c1, ua, ba.le (by decide), iso_cup ?_ rfl rfl⟩
  have fr := forR (lo := -2) (m := 5) (t := .nm 3) (b := l1_law_unit) (env := [some (.loc 0), some (.int n), some (.loc 1), none, none, none]) (st := [cs c, []]) (by omega)
  rw [run] at fr
  rcases F.rt with hn | ⟨r, r1, r2, r3⟩
  · simp [r_fnM, bR_ok, bR_exc, bR_bad, liftR_some, liftR_none, varR_some, r_var, r_c, r_kB2, r_kB1, r_bin, r_kUn, r_un, r_kC2, r_kC1, r_nil, r_cons, r_kTup, r_kLst, r_tup, r_lst, r_kCall, r_call, r_fn, r_fnl2, r_fnlR, r_fnl, r_kBl, r_mBl, r_truthR, r_kTruth, truth, r_mTruth, r_kIfT, r_kIfF, r_if, r_sif, r_cRet, r_and, r_or, r_kNot, r_not, r_kNotB, r_bnot, r_band, r_bor, r_true, r_kCh3T, r_kCh3F, r_kCh2, r_kCh1, r_chain, r_kOpt, r_pNone, r_pSome, r_kSl3, r_kSl2, r_kSl1, r_sl, r_kM2, r_kM1, r_m1, r_kOfL, r_kOfT, r_of, r_kRange1, r_kRange2, r_range, r_kZipL, r_kZipT, r_zip, r_kLc, r_lc, r_totR, r_mtot, r_setR, r_kLc2, r_kLc1T, r_kLc1F, r_kLc0, r_lcL0, r_lcL, r_kSeqN, r_kSeqR, r_kSeqB, r_kSeqC, r_seq, r_snil, r_brk, r_cont, r_asgR, r_kAsg, r_asg, r_kPar, r_par, r_kPar3, r_par3, r_kRet, r_ret, r_kExpr, r_expr, r_raise, r_kSet3, r_kSet2, r_kSet1, r_set, r_kFor, r_for, r_kForLN, r_kForLC, r_kForLB, r_kForLR, r_kForL0, r_kEndN, r_kEndR, f1, f2, gIx, atI, ixN, gLen, gAbs, gInt, gTuple, gIsi, tyOf, isTy, gAdd, gMul, iBin_t, iMod_k, iDiv_k, iMul_k, iPow_k, iNeg, tAddO, lAdd, sAdd, lRep, tRep, gIsN, isNon, gIn, inF, eqF, gEqB, tp_non, tp_bl, tp_int, tp_str, tp_tup, tp_loc, allPy, PyData.eqv, PyData.eqvAll, Tg.set, Tgs.set, rBound, forR, forT, lcR, lcT, wipeE, noLoc, noLocs, gAll, allBl, ieq, like_l, likeR, plains, plainD, likePs, likeP, r_nxR, r_nxLoc, r_zipR, r_zipR0, r_zipR1, r_nxZip, r_orR, r_orRx, r_kK2, r_kK1T, r_kK1F, r_kK0, r_lcKa0, r_lcKa1, r_lcK, r_kF1N, r_kF1C, r_kF1B, r_kF1R, r_kF0, r_forFa0, r_forFa1, r_forF, r_errW, r_errO, r_errE, r_err, gGcd, r_kRaiseL, r_raiseL, r_orT2T, r_orT2F, r_kOrT, r_orT, gBits, gRev, gStr, gSl, Mir.cutD, HT.sIx, RetsC, m_law_unit, b_law_unit, n0, hn, fr, e1]
  · by_cases hn : n < 0
    · simp [r_fnM, bR_ok, bR_exc, bR_bad, liftR_some, liftR_none, varR_some, r_var, r_c, r_kB2, r_kB1, r_bin, r_kUn, r_un, r_kC2, r_kC1, r_nil, r_cons, r_kTup, r_kLst, r_tup, r_lst, r_kCall, r_call, r_fn, r_fnl2, r_fnlR, r_fnl, r_kBl, r_mBl, r_truthR, r_kTruth, truth, r_mTruth, r_kIfT, r_kIfF, r_if, r_sif, r_cRet, r_and, r_or, r_kNot, r_not, r_kNotB, r_bnot, r_band, r_bor, r_true, r_kCh3T, r_kCh3F, r_kCh2, r_kCh1, r_chain, r_kOpt, r_pNone, r_pSome, r_kSl3, r_kSl2, r_kSl1, r_sl, r_kM2, r_kM1, r_m1, r_kOfL, r_kOfT, r_of, r_kRange1, r_kRange2, r_range, r_kZipL, r_kZipT, r_zip, r_kLc, r_lc, r_totR, r_mtot, r_setR, r_kLc2, r_kLc1T, r_kLc1F, r_kLc0, r_lcL0, r_lcL, r_kSeqN, r_kSeqR, r_kSeqB, r_kSeqC, r_seq, r_snil, r_brk, r_cont, r_asgR, r_kAsg, r_asg, r_kPar, r_par, r_kPar3, r_par3, r_kRet, r_ret, r_kExpr, r_expr, r_raise, r_kSet3, r_kSet2, r_kSet1, r_set, r_kFor, r_for, r_kForLN, r_kForLC, r_kForLB, r_kForLR, r_kForL0, r_kEndN, r_kEndR, f1, f2, gIx, atI, ixN, gLen, gAbs, gInt, gTuple, gIsi, tyOf, isTy, gAdd, gMul, iBin_t, iMod_k, iDiv_k, iMul_k, iPow_k, iNeg, tAddO, lAdd, sAdd, lRep, tRep, gIsN, isNon, gIn, inF, eqF, gEqB, tp_non, tp_bl, tp_int, tp_str, tp_tup, tp_loc, allPy, PyData.eqv, PyData.eqvAll, Tg.set, Tgs.set, rBound, forR, forT, lcR, lcT, wipeE, noLoc, noLocs, gAll, allBl, ieq, like_l, likeR, plains, plainD, likePs, likeP, r_nxR, r_nxLoc, r_zipR, r_zipR0, r_zipR1, r_nxZip, r_orR, r_orRx, r_kK2, r_kK1T, r_kK1F, r_kK0, r_lcKa0, r_lcKa1, r_lcK, r_kF1N, r_kF1C, r_kF1B, r_kF1R, r_kF0, r_forFa0, r_forFa1, r_forF, r_errW, r_errO, r_errE, r_err, gGcd, r_kRaiseL, r_raiseL, r_orT2T, r_orT2F, r_kOrT, r_orT, gBits, gRev, gStr, gSl, Mir.cutD, HT.sIx, RetsC, m_law_unit, b_law_unit, n0, hn, fr, e1]
    · simp [r_fnM, bR_ok, bR_exc, bR_bad, liftR_some, liftR_none, varR_some, r_var, r_c, r_kB2, r_kB1, r_bin, r_kUn, r_un, r_kC2, r_kC1, r_nil, r_cons, r_kTup, r_kLst, r_tup, r_lst, r_kCall, r_call, r_fn, r_fnl2, r_fnlR, r_fnl, r_kBl, r_mBl, r_truthR, r_kTruth, truth, r_mTruth, r_kIfT, r_kIfF, r_if, r_sif, r_cRet, r_and, r_or, r_kNot, r_not, r_kNotB, r_bnot, r_band, r_bor, r_true, r_kCh3T, r_kCh3F, r_kCh2, r_kCh1, r_chain, r_kOpt, r_pNone, r_pSome, r_kSl3, r_kSl2, r_kSl1, r_sl, r_kM2, r_kM1, r_m1, r_kOfL, r_kOfT, r_of, r_kRange1, r_kRange2, r_range, r_kZipL, r_kZipT, r_zip, r_kLc, r_lc, r_totR, r_mtot, r_setR, r_kLc2, r_kLc1T, r_kLc1F, r_kLc0, r_lcL0, r_lcL, r_kSeqN, r_kSeqR, r_kSeqB, r_kSeqC, r_seq, r_snil, r_brk, r_cont, r_asgR, r_kAsg, r_asg, r_kPar, r_par, r_kPar3, r_par3, r_kRet, r_ret, r_kExpr, r_expr, r_raise, r_kSet3, r_kSet2, r_kSet1, r_set, r_kFor, r_for, r_kForLN, r_kForLC, r_kForLB, r_kForLR, r_kForL0, r_kEndN, r_kEndR, f1, f2, gIx, atI, ixN, gLen, gAbs, gInt, gTuple, gIsi, tyOf, isTy, gAdd, gMul, iBin_t, iMod_k, iDiv_k, iMul_k, iPow_k, iNeg, tAddO, lAdd, sAdd, lRep, tRep, gIsN, isNon, gIn, inF, eqF, gEqB, tp_non, tp_bl, tp_int, tp_str, tp_tup, tp_loc, allPy, PyData.eqv, PyData.eqvAll, Tg.set, Tgs.set, rBound, forR, forT, lcR, lcT, wipeE, noLoc, noLocs, gAll, allBl, ieq, like_l, likeR, plains, plainD, likePs, likeP, r_nxR, r_nxLoc, r_zipR, r_zipR0, r_zipR1, r_nxZip, r_orR, r_orRx, r_kK2, r_kK1T, r_kK1F, r_kK0, r_lcKa0, r_lcKa1, r_lcK, r_kF1N, r_kF1C, r_kF1B, r_kF1R, r_kF0, r_forFa0, r_forFa1, r_forF, r_errW, r_errO, r_errE, r_err, gGcd, r_kRaiseL, r_raiseL, r_orT2T, r_orT2F, r_kOrT, r_orT, gBits, gRev, gStr, gSl, Mir.cutD, HT.sIx, RetsC, m_law_unit, b_law_unit, n0, hn, r1, r2, r3, fr, e1]
theorem zero_ok : NumOk 0 := by
  have d : Nm 0 0 0 := ⟨by decide, .inl rfl, by decide, by decide⟩
  refine ⟨0, 0, false, d, of_run (by kernel_rfl) rfl rfl, of_run (by kernel_rfl) rfl rfl, fun c => ?_⟩
  obtain ⟨v, c1, v0, v1, e1⟩ := roll_x c 2 (by decide) (by decide)
  obtain ⟨w, c2, w0, w1, e2⟩ := roll_x c1 21 (by decide) (by decide)
  have k1 : cMul 4 v = true := cMul_of (m := 3) (n := 2) (by decide) (bits_of (by omega)) (by decide)
  refine ⟨⟨1 - 2 * v, w - 10⟩, c2, .inl ?_, ⟨bits_of (by simp only; omega), bits_of (by simp only; omega)⟩, iso_cup ?_ rfl rfl⟩
  · unfold El.N
    simp only
    have hv : v = 0 ∨ v = 1 := by omega
    rcases hv with rfl | rfl <;> simp
  · have q : El.t 0 ⟨1 - 2 * v, w - 10⟩ = 2 - 4 * v := by unfold El.t; simp only; omega
    simp [r_fnM, bR_ok, bR_exc, bR_bad, liftR_some, liftR_none, varR_some, r_var, r_c, r_kB2, r_kB1, r_bin, r_kUn, r_un, r_kC2, r_kC1, r_nil, r_cons, r_kTup, r_kLst, r_tup, r_lst, r_kCall, r_call, r_fn, r_fnl2, r_fnlR, r_fnl, r_kBl, r_mBl, r_truthR, r_kTruth, truth, r_mTruth, r_kIfT, r_kIfF, r_if, r_sif, r_cRet, r_and, r_or, r_kNot, r_not, r_kNotB, r_bnot, r_band, r_bor, r_true, r_kCh3T, r_kCh3F, r_kCh2, r_kCh1, r_chain, r_kOpt, r_pNone, r_pSome, r_kSl3, r_kSl2, r_kSl1, r_sl, r_kM2, r_kM1, r_m1, r_kOfL, r_kOfT, r_of, r_kRange1, r_kRange2, r_range, r_kZipL, r_kZipT, r_zip, r_kLc, r_lc, r_totR, r_mtot, r_setR, r_kLc2, r_kLc1T, r_kLc1F, r_kLc0, r_lcL0, r_lcL, r_kSeqN, r_kSeqR, r_kSeqB, r_kSeqC, r_seq, r_snil, r_brk, r_cont, r_asgR, r_kAsg, r_asg, r_kPar, r_par, r_kPar3, r_par3, r_kRet, r_ret, r_kExpr, r_expr, r_raise, r_kSet3, r_kSet2, r_kSet1, r_set, r_kFor, r_for, r_kForLN, r_kForLC, r_kForLB, r_kForLR, r_kForL0, r_forL0, r_forL, r_kEndN, r_kEndR, f1, f2, gIx, atI, ixN, gLen, gAbs, gInt, gTuple, gIsi, tyOf, isTy, gAdd, gMul, iBin_t, iMod_k, iDiv_k, iMul_k, iPow_k, iNeg, tAddO, lAdd, sAdd, lRep, tRep, gIsN, isNon, gIn, inF, eqF, gEqB, tp_non, tp_bl, tp_int, tp_str, tp_tup, tp_loc, allPy, PyData.eqv, PyData.eqvAll, Tg.set, Tgs.set, rBound, forR, forT, lcR, lcT, rangeD, wipeE, noLoc, noLocs, gAll, allBl, ieq, like_l, likeR, plains, plainD, likePs, likeP, r_nxR, r_nxLoc, r_zipR, r_zipR0, r_zipR1, r_nxZip, r_orR, r_orRx, r_kK2, r_kK1T, r_kK1F, r_kK0, r_lcKa0, r_lcKa1, r_lcK, r_kF1N, r_kF1C, r_kF1B, r_kF1R, r_kF0, r_forFa0, r_forFa1, r_forF, r_errW, r_errO, r_errE, r_err, gGcd, r_kRaiseL, r_raiseL, r_orT2T, r_orT2F, r_kOrT, r_orT, gBits, gRev, gStr, gSl, Mir.cutD, HT.sIx, RetsC, m_law_unit, b_law_unit, e1, e2, k1, q]
theorem num_ok : ∀ n ∈ ([5, 8, 12, 13, 17, 20, 21, 24, 28, 29, 32, 33, 37, 40, 41, 44, 45, 53, 56, 57, 60, 61, 65, 69, 72, 73, 77, 80, 85] ++ [-3, -4, -7, -8, -11, -20, 0, 1, 4, 9, 16, 25] : List Int), NumOk n := fun n hn => by
  rcases List.mem_append.mp hn with h | h
  · exact free_ok (fr_all n h)
  · by_cases h0 : n = 0
    · subst h0; exact zero_ok
    · refine few_ok (fw_all n ?_)
      unfold fewNs
      simp only [List.mem_cons, List.not_mem_nil, or_false] at h ⊢
      omega
theorem number_m (c : Cup) : ∃ (n : Int) (c' : Cup), NumOk n ∧ RetsC (m_law_number [.loc 0] [cs c]) (.int n) c' := by
  obtain ⟨g, hg, c1, e1⟩ := someI_x c [5, 8, 12, 13, 17, 20, 21, 24, 28, 29, 32, 33, 37, 40, 41, 44, 45, 53, 56, 57, 60, 61, 65, 69, 72, 73, 77, 80, 85] (by decide) (by decide)
  obtain ⟨h, hh, c2, e2⟩ := someI_x c1 [-3, -4, -7, -8, -11, -20, 0, 1, 4, 9, 16, 25] (by decide) (by decide)
  obtain ⟨k, hk, c3, e3⟩ := someI_x c2 [g, g, g, g, g, h] (by simp) (by simp)
  refine ⟨k, c3, ?_, ?_⟩
  · simp only [List.mem_cons, List.not_mem_nil, or_false, or_self] at hk
    have : k = g ∨ k = h := by
      rcases hk with q | q | q | q | q | q <;> first | exact .inl q | exact .inr q
    rcases this with rfl | rfl
    · exact num_ok _ (List.mem_append.mpr (.inl hg))
    · exact num_ok _ (List.mem_append.mpr (.inr hh))
  · simp [r_fnM, bR_ok, bR_exc, bR_bad, liftR_some, liftR_none, varR_some, r_var, r_c, r_kB2, r_kB1, r_bin, r_kUn, r_un, r_kC2, r_kC1, r_nil, r_cons, r_kTup, r_kLst, r_tup, r_lst, r_kCall, r_call, r_fn, r_fnl2, r_fnlR, r_fnl, r_kBl, r_mBl, r_truthR, r_kTruth, truth, r_mTruth, r_kIfT, r_kIfF, r_if, r_sif, r_cRet, r_and, r_or, r_kNot, r_not, r_kNotB, r_bnot, r_band, r_bor, r_true, r_kCh3T, r_kCh3F, r_kCh2, r_kCh1, r_chain, r_kOpt, r_pNone, r_pSome, r_kSl3, r_kSl2, r_kSl1, r_sl, r_kM2, r_kM1, r_m1, r_kOfL, r_kOfT, r_of, r_kRange1, r_kRange2, r_range, r_kZipL, r_kZipT, r_zip, r_kLc, r_lc, r_totR, r_mtot, r_setR, r_kLc2, r_kLc1T, r_kLc1F, r_kLc0, r_lcL0, r_lcL, r_kSeqN, r_kSeqR, r_kSeqB, r_kSeqC, r_seq, r_snil, r_brk, r_cont, r_asgR, r_kAsg, r_asg, r_kPar, r_par, r_kPar3, r_par3, r_kRet, r_ret, r_kExpr, r_expr, r_raise, r_kSet3, r_kSet2, r_kSet1, r_set, r_kFor, r_for, r_kForLN, r_kForLC, r_kForLB, r_kForLR, r_kForL0, r_forL0, r_forL, r_kEndN, r_kEndR, f1, f2, gIx, atI, ixN, gLen, gAbs, gInt, gTuple, gIsi, tyOf, isTy, gAdd, gMul, iBin_t, iMod_k, iDiv_k, iMul_k, iPow_k, iNeg, tAddO, lAdd, sAdd, lRep, tRep, gIsN, isNon, gIn, inF, eqF, gEqB, tp_non, tp_bl, tp_int, tp_str, tp_tup, tp_loc, allPy, PyData.eqv, PyData.eqvAll, Tg.set, Tgs.set, rBound, forR, forT, lcR, lcT, rangeD, wipeE, noLoc, noLocs, gAll, allBl, ieq, like_l, likeR, plains, plainD, likePs, likeP, r_nxR, r_nxLoc, r_zipR, r_zipR0, r_zipR1, r_nxZip, r_orR, r_orRx, r_kK2, r_kK1T, r_kK1F, r_kK0, r_lcKa0, r_lcKa1, r_lcK, r_kF1N, r_kF1C, r_kF1B, r_kF1R, r_kF0, r_forFa0, r_forFa1, r_forF, r_errW, r_errO, r_errE, r_err, gGcd, r_kRaiseL, r_raiseL, r_orT2T, r_orT2F, r_kOrT, r_orT, gBits, gRev, gStr, gSl, Mir.cutD, HT.sIx, RetsC, m_law_number, b_law_number, e1, e2, e3]
end K21
/-! K21T: values near a unit; the part of one number (own work). -/
namespace K21
open PySem _root_.L2 Mir PyProof.Rows
variable {n m s : Int} {a b : El}
/-- both judges say the same -/
def Ag (n : Int) (d : D) (st : Store) : Prop := ∃ b, iso m_is_unit [.int n, d] st = .ok (.bl b) st ∧ iso m_law_is_unit [.int n, d] st = .ok (.bl b) st
theorem ag_p (d : Nm n m s) {x y : Int} (hx : B 1000 x) (hy : B 1000 y) (st : Store) : Ag n (p2 x y) st := by
  have e1 := fits_i d.nu (Nat.le_trans hx (by decide)) (Nat.le_trans hy (by decide))
  have e2 := need_number_i d.nu
  have b3 := d.nu.b
  have c1 : cPow x 2 = true := cPow_of (by decide) hx (by decide)
  have c2 : cPow y 2 = true := cPow_of (by decide) hy (by decide)
  have c3 : cMul n (y ^ 2) = true := cMul_of b3 (by rw [show y ^ 2 = y * y from pow2 _]; exact b_mul hy hy) (by decide)
  have e : x ^ 2 - n * y ^ 2 = Sz n x y := by
    rw [show y ^ 2 = y * y from pow2 _, show x ^ 2 = x * x from pow2 _]
    unfold Sz
    rw [Int.mul_assoc]
  by_cases h1 : Sz n x y = 4
  · exact ⟨true, iso_pure (by simp [r_fnM, bR_ok, bR_exc, bR_bad, liftR_some, liftR_none, varR_some, r_var, r_c, r_kB2, r_kB1, r_bin, r_kUn, r_un, r_kC2, r_kC1, r_nil, r_cons, r_kTup, r_kLst, r_tup, r_lst, r_kCall, r_call, r_fn, r_fnl2, r_fnlR, r_fnl, r_kBl, r_mBl, r_truthR, r_kTruth, truth, r_mTruth, r_kIfT, r_kIfF, r_if, r_sif, r_cRet, r_and, r_or, r_kNot, r_not, r_kNotB, r_bnot, r_band, r_bor, r_true, r_kCh3T, r_kCh3F, r_kCh2, r_kCh1, r_chain, r_kOpt, r_pNone, r_pSome, r_kSl3, r_kSl2, r_kSl1, r_sl, r_kM2, r_kM1, r_m1, r_kOfL, r_kOfT, r_of, r_kRange1, r_kRange2, r_range, r_kZipL, r_kZipT, r_zip, r_kLc, r_lc, r_totR, r_mtot, r_setR, r_kLc2, r_kLc1T, r_kLc1F, r_kLc0, r_lcL0, r_lcL, r_kSeqN, r_kSeqR, r_kSeqB, r_kSeqC, r_seq, r_snil, r_brk, r_cont, r_asgR, r_kAsg, r_asg, r_kPar, r_par, r_kPar3, r_par3, r_kRet, r_ret, r_kExpr, r_expr, r_raise, r_kSet3, r_kSet2, r_kSet1, r_set, r_kFor, r_for, r_kForLN, r_kForLC, r_kForLB, r_kForLR, r_kForL0, r_forL0, r_forL, r_kEndN, r_kEndR, f1, f2, gIx, atI, ixN, gLen, gAbs, gInt, gTuple, gIsi, tyOf, isTy, gAdd, gMul, iBin_t, iMod_k, iDiv_k, iMul_k, iPow_k, iNeg, tAddO, lAdd, sAdd, lRep, tRep, gIsN, isNon, gIn, inF, eqF, gEqB, tp_non, tp_bl, tp_int, tp_str, tp_tup, tp_loc, allPy, PyData.eqv, PyData.eqvAll, Tg.set, Tgs.set, rBound, forR, forT, lcR, lcT, rangeD, wipeE, noLoc, noLocs, gAll, allBl, ieq, like_l, likeR, plains, plainD, likePs, likeP, r_nxR, r_nxLoc, r_zipR, r_zipR0, r_zipR1, r_nxZip, r_orR, r_orRx, r_kK2, r_kK1T, r_kK1F, r_kK0, r_lcKa0, r_lcKa1, r_lcK, r_kF1N, r_kF1C, r_kF1B, r_kF1R, r_kF0, r_forFa0, r_forFa1, r_forF, r_errW, r_errO, r_errE, r_err, gGcd, r_kRaiseL, r_raiseL, r_orT2T, r_orT2F, r_kOrT, r_orT, gBits, gRev, gStr, gSl, Mir.cutD, HT.sIx, Rets, m_is_unit, b_is_unit, e1, e2, h1]) rfl rfl st, iso_pure (by simp [r_fnM, bR_ok, bR_exc, bR_bad, liftR_some, liftR_none, varR_some, r_var, r_c, r_kB2, r_kB1, r_bin, r_kUn, r_un, r_kC2, r_kC1, r_nil, r_cons, r_kTup, r_kLst, r_tup, r_lst, r_kCall, r_call, r_fn, r_fnl2, r_fnlR, r_fnl, r_kBl, r_mBl, r_truthR, r_kTruth, truth, r_mTruth, r_kIfT, r_kIfF, r_if, r_sif, r_cRet, r_and, r_or, r_kNot, r_not, r_kNotB, r_bnot, r_band, r_bor, r_true, r_kCh3T, r_kCh3F, r_kCh2, r_kCh1, r_chain, r_kOpt, r_pNone, r_pSome, r_kSl3, r_kSl2, r_kSl1, r_sl, r_kM2, r_kM1, r_m1, r_kOfL, r_kOfT, r_of, r_kRange1, r_kRange2, r_range, r_kZipL, r_kZipT, r_zip, r_kLc, r_lc, r_totR, r_mtot, r_setR, r_kLc2, r_kLc1T, r_kLc1F, r_kLc0, r_lcL0, r_lcL, r_kSeqN, r_kSeqR, r_kSeqB, r_kSeqC, r_seq, r_snil, r_brk, r_cont, r_asgR, r_kAsg, r_asg, r_kPar, r_par, r_kPar3, r_par3, r_kRet, r_ret, r_kExpr, r_expr, r_raise, r_kSet3, r_kSet2, r_kSet1, r_set, r_kFor, r_for, r_kForLN, r_kForLC, r_kForLB, r_kForLR, r_kForL0, r_forL0, r_forL, r_kEndN, r_kEndR, f1, f2, gIx, atI, ixN, gLen, gAbs, gInt, gTuple, gIsi, tyOf, isTy, gAdd, gMul, iBin_t, iMod_k, iDiv_k, iMul_k, iPow_k, iNeg, tAddO, lAdd, sAdd, lRep, tRep, gIsN, isNon, gIn, inF, eqF, gEqB, tp_non, tp_bl, tp_int, tp_str, tp_tup, tp_loc, allPy, PyData.eqv, PyData.eqvAll, Tg.set, Tgs.set, rBound, forR, forT, lcR, lcT, rangeD, wipeE, noLoc, noLocs, gAll, allBl, ieq, like_l, likeR, plains, plainD, likePs, likeP, r_nxR, r_nxLoc, r_zipR, r_zipR0, r_zipR1, r_nxZip, r_orR, r_orRx, r_kK2, r_kK1T, r_kK1F, r_kK0, r_lcKa0, r_lcKa1, r_lcK, r_kF1N, r_kF1C, r_kF1B, r_kF1R, r_kF0, r_forFa0, r_forFa1, r_forF, r_errW, r_errO, r_errE, r_err, gGcd, r_kRaiseL, r_raiseL, r_orT2T, r_orT2F, r_kOrT, r_orT, gBits, gRev, gStr, gSl, Mir.cutD, HT.sIx, Rets, m_law_is_unit, b_law_is_unit, so_tup, so_int, c1, c2, c3, e, h1]) rfl rfl st⟩
  · by_cases h2 : Sz n x y = -4
    · exact ⟨true, iso_pure (by simp [r_fnM, bR_ok, bR_exc, bR_bad, liftR_some, liftR_none, varR_some, r_var, r_c, r_kB2, r_kB1, r_bin, r_kUn, r_un, r_kC2, r_kC1, r_nil, r_cons, r_kTup, r_kLst, r_tup, r_lst, r_kCall, r_call, r_fn, r_fnl2, r_fnlR, r_fnl, r_kBl, r_mBl, r_truthR, r_kTruth, truth, r_mTruth, r_kIfT, r_kIfF, r_if, r_sif, r_cRet, r_and, r_or, r_kNot, r_not, r_kNotB, r_bnot, r_band, r_bor, r_true, r_kCh3T, r_kCh3F, r_kCh2, r_kCh1, r_chain, r_kOpt, r_pNone, r_pSome, r_kSl3, r_kSl2, r_kSl1, r_sl, r_kM2, r_kM1, r_m1, r_kOfL, r_kOfT, r_of, r_kRange1, r_kRange2, r_range, r_kZipL, r_kZipT, r_zip, r_kLc, r_lc, r_totR, r_mtot, r_setR, r_kLc2, r_kLc1T, r_kLc1F, r_kLc0, r_lcL0, r_lcL, r_kSeqN, r_kSeqR, r_kSeqB, r_kSeqC, r_seq, r_snil, r_brk, r_cont, r_asgR, r_kAsg, r_asg, r_kPar, r_par, r_kPar3, r_par3, r_kRet, r_ret, r_kExpr, r_expr, r_raise, r_kSet3, r_kSet2, r_kSet1, r_set, r_kFor, r_for, r_kForLN, r_kForLC, r_kForLB, r_kForLR, r_kForL0, r_forL0, r_forL, r_kEndN, r_kEndR, f1, f2, gIx, atI, ixN, gLen, gAbs, gInt, gTuple, gIsi, tyOf, isTy, gAdd, gMul, iBin_t, iMod_k, iDiv_k, iMul_k, iPow_k, iNeg, tAddO, lAdd, sAdd, lRep, tRep, gIsN, isNon, gIn, inF, eqF, gEqB, tp_non, tp_bl, tp_int, tp_str, tp_tup, tp_loc, allPy, PyData.eqv, PyData.eqvAll, Tg.set, Tgs.set, rBound, forR, forT, lcR, lcT, rangeD, wipeE, noLoc, noLocs, gAll, allBl, ieq, like_l, likeR, plains, plainD, likePs, likeP, r_nxR, r_nxLoc, r_zipR, r_zipR0, r_zipR1, r_nxZip, r_orR, r_orRx, r_kK2, r_kK1T, r_kK1F, r_kK0, r_lcKa0, r_lcKa1, r_lcK, r_kF1N, r_kF1C, r_kF1B, r_kF1R, r_kF0, r_forFa0, r_forFa1, r_forF, r_errW, r_errO, r_errE, r_err, gGcd, r_kRaiseL, r_raiseL, r_orT2T, r_orT2F, r_kOrT, r_orT, gBits, gRev, gStr, gSl, Mir.cutD, HT.sIx, Rets, m_is_unit, b_is_unit, e1, e2, h2]) rfl rfl st, iso_pure (by simp [r_fnM, bR_ok, bR_exc, bR_bad, liftR_some, liftR_none, varR_some, r_var, r_c, r_kB2, r_kB1, r_bin, r_kUn, r_un, r_kC2, r_kC1, r_nil, r_cons, r_kTup, r_kLst, r_tup, r_lst, r_kCall, r_call, r_fn, r_fnl2, r_fnlR, r_fnl, r_kBl, r_mBl, r_truthR, r_kTruth, truth, r_mTruth, r_kIfT, r_kIfF, r_if, r_sif, r_cRet, r_and, r_or, r_kNot, r_not, r_kNotB, r_bnot, r_band, r_bor, r_true, r_kCh3T, r_kCh3F, r_kCh2, r_kCh1, r_chain, r_kOpt, r_pNone, r_pSome, r_kSl3, r_kSl2, r_kSl1, r_sl, r_kM2, r_kM1, r_m1, r_kOfL, r_kOfT, r_of, r_kRange1, r_kRange2, r_range, r_kZipL, r_kZipT, r_zip, r_kLc, r_lc, r_totR, r_mtot, r_setR, r_kLc2, r_kLc1T, r_kLc1F, r_kLc0, r_lcL0, r_lcL, r_kSeqN, r_kSeqR, r_kSeqB, r_kSeqC, r_seq, r_snil, r_brk, r_cont, r_asgR, r_kAsg, r_asg, r_kPar, r_par, r_kPar3, r_par3, r_kRet, r_ret, r_kExpr, r_expr, r_raise, r_kSet3, r_kSet2, r_kSet1, r_set, r_kFor, r_for, r_kForLN, r_kForLC, r_kForLB, r_kForLR, r_kForL0, r_forL0, r_forL, r_kEndN, r_kEndR, f1, f2, gIx, atI, ixN, gLen, gAbs, gInt, gTuple, gIsi, tyOf, isTy, gAdd, gMul, iBin_t, iMod_k, iDiv_k, iMul_k, iPow_k, iNeg, tAddO, lAdd, sAdd, lRep, tRep, gIsN, isNon, gIn, inF, eqF, gEqB, tp_non, tp_bl, tp_int, tp_str, tp_tup, tp_loc, allPy, PyData.eqv, PyData.eqvAll, Tg.set, Tgs.set, rBound, forR, forT, lcR, lcT, rangeD, wipeE, noLoc, noLocs, gAll, allBl, ieq, like_l, likeR, plains, plainD, likePs, likeP, r_nxR, r_nxLoc, r_zipR, r_zipR0, r_zipR1, r_nxZip, r_orR, r_orRx, r_kK2, r_kK1T, r_kK1F, r_kK0, r_lcKa0, r_lcKa1, r_lcK, r_kF1N, r_kF1C, r_kF1B, r_kF1R, r_kF0, r_forFa0, r_forFa1, r_forF, r_errW, r_errO, r_errE, r_err, gGcd, r_kRaiseL, r_raiseL, r_orT2T, r_orT2F, r_kOrT, r_orT, gBits, gRev, gStr, gSl, Mir.cutD, HT.sIx, Rets, m_law_is_unit, b_law_is_unit, so_tup, so_int, c1, c2, c3, e, h2]) rfl rfl st⟩
    · exact ⟨false, iso_pure (by simp [r_fnM, bR_ok, bR_exc, bR_bad, liftR_some, liftR_none, varR_some, r_var, r_c, r_kB2, r_kB1, r_bin, r_kUn, r_un, r_kC2, r_kC1, r_nil, r_cons, r_kTup, r_kLst, r_tup, r_lst, r_kCall, r_call, r_fn, r_fnl2, r_fnlR, r_fnl, r_kBl, r_mBl, r_truthR, r_kTruth, truth, r_mTruth, r_kIfT, r_kIfF, r_if, r_sif, r_cRet, r_and, r_or, r_kNot, r_not, r_kNotB, r_bnot, r_band, r_bor, r_true, r_kCh3T, r_kCh3F, r_kCh2, r_kCh1, r_chain, r_kOpt, r_pNone, r_pSome, r_kSl3, r_kSl2, r_kSl1, r_sl, r_kM2, r_kM1, r_m1, r_kOfL, r_kOfT, r_of, r_kRange1, r_kRange2, r_range, r_kZipL, r_kZipT, r_zip, r_kLc, r_lc, r_totR, r_mtot, r_setR, r_kLc2, r_kLc1T, r_kLc1F, r_kLc0, r_lcL0, r_lcL, r_kSeqN, r_kSeqR, r_kSeqB, r_kSeqC, r_seq, r_snil, r_brk, r_cont, r_asgR, r_kAsg, r_asg, r_kPar, r_par, r_kPar3, r_par3, r_kRet, r_ret, r_kExpr, r_expr, r_raise, r_kSet3, r_kSet2, r_kSet1, r_set, r_kFor, r_for, r_kForLN, r_kForLC, r_kForLB, r_kForLR, r_kForL0, r_forL0, r_forL, r_kEndN, r_kEndR, f1, f2, gIx, atI, ixN, gLen, gAbs, gInt, gTuple, gIsi, tyOf, isTy, gAdd, gMul, iBin_t, iMod_k, iDiv_k, iMul_k, iPow_k, iNeg, tAddO, lAdd, sAdd, lRep, tRep, gIsN, isNon, gIn, inF, eqF, gEqB, tp_non, tp_bl, tp_int, tp_str, tp_tup, tp_loc, allPy, PyData.eqv, PyData.eqvAll, Tg.set, Tgs.set, rBound, forR, forT, lcR, lcT, rangeD, wipeE, noLoc, noLocs, gAll, allBl, ieq, like_l, likeR, plains, plainD, likePs, likeP, r_nxR, r_nxLoc, r_zipR, r_zipR0, r_zipR1, r_nxZip, r_orR, r_orRx, r_kK2, r_kK1T, r_kK1F, r_kK0, r_lcKa0, r_lcKa1, r_lcK, r_kF1N, r_kF1C, r_kF1B, r_kF1R, r_kF0, r_forFa0, r_forFa1, r_forF, r_errW, r_errO, r_errE, r_err, gGcd, r_kRaiseL, r_raiseL, r_orT2T, r_orT2F, r_kOrT, r_orT, gBits, gRev, gStr, gSl, Mir.cutD, HT.sIx, Rets, m_is_unit, b_is_unit, e1, e2, h1, h2]) rfl rfl st, iso_pure (by simp [r_fnM, bR_ok, bR_exc, bR_bad, liftR_some, liftR_none, varR_some, r_var, r_c, r_kB2, r_kB1, r_bin, r_kUn, r_un, r_kC2, r_kC1, r_nil, r_cons, r_kTup, r_kLst, r_tup, r_lst, r_kCall, r_call, r_fn, r_fnl2, r_fnlR, r_fnl, r_kBl, r_mBl, r_truthR, r_kTruth, truth, r_mTruth, r_kIfT, r_kIfF, r_if, r_sif, r_cRet, r_and, r_or, r_kNot, r_not, r_kNotB, r_bnot, r_band, r_bor, r_true, r_kCh3T, r_kCh3F, r_kCh2, r_kCh1, r_chain, r_kOpt, r_pNone, r_pSome, r_kSl3, r_kSl2, r_kSl1, r_sl, r_kM2, r_kM1, r_m1, r_kOfL, r_kOfT, r_of, r_kRange1, r_kRange2, r_range, r_kZipL, r_kZipT, r_zip, r_kLc, r_lc, r_totR, r_mtot, r_setR, r_kLc2, r_kLc1T, r_kLc1F, r_kLc0, r_lcL0, r_lcL, r_kSeqN, r_kSeqR, r_kSeqB, r_kSeqC, r_seq, r_snil, r_brk, r_cont, r_asgR, r_kAsg, r_asg, r_kPar, r_par, r_kPar3, r_par3, r_kRet, r_ret, r_kExpr, r_expr, r_raise, r_kSet3, r_kSet2, r_kSet1, r_set, r_kFor, r_for, r_kForLN, r_kForLC, r_kForLB, r_kForLR, r_kForL0, r_forL0, r_forL, r_kEndN, r_kEndR, f1, f2, gIx, atI, ixN, gLen, gAbs, gInt, gTuple, gIsi, tyOf, isTy, gAdd, gMul, iBin_t, iMod_k, iDiv_k, iMul_k, iPow_k, iNeg, tAddO, lAdd, sAdd, lRep, tRep, gIsN, isNon, gIn, inF, eqF, gEqB, tp_non, tp_bl, tp_int, tp_str, tp_tup, tp_loc, allPy, PyData.eqv, PyData.eqvAll, Tg.set, Tgs.set, rBound, forR, forT, lcR, lcT, rangeD, wipeE, noLoc, noLocs, gAll, allBl, ieq, like_l, likeR, plains, plainD, likePs, likeP, r_nxR, r_nxLoc, r_zipR, r_zipR0, r_zipR1, r_nxZip, r_orR, r_orRx, r_kK2, r_kK1T, r_kK1F, r_kK0, r_lcKa0, r_lcKa1, r_lcK, r_kF1N, r_kF1C, r_kF1B, r_kF1R, r_kF0, r_forFa0, r_forFa1, r_forF, r_errW, r_errO, r_errE, r_err, gGcd, r_kRaiseL, r_raiseL, r_orT2T, r_orT2F, r_kOrT, r_orT, gBits, gRev, gStr, gSl, Mir.cutD, HT.sIx, Rets, m_law_is_unit, b_law_is_unit, so_tup, so_int, c1, c2, c3, e, h1, h2, Ne.symm h1, Ne.symm h2]) rfl rfl st⟩
theorem ag_1 (d : Nm n m s) {x : Int} (st : Store) : Ag n (.tup [.int x]) st :=
  ⟨false, iso_pure (by simp [r_fnM, bR_ok, bR_exc, bR_bad, liftR_some, liftR_none, varR_some, r_var, r_c, r_kB2, r_kB1, r_bin, r_kUn, r_un, r_kC2, r_kC1, r_nil, r_cons, r_kTup, r_kLst, r_tup, r_lst, r_kCall, r_call, r_fn, r_fnl2, r_fnlR, r_fnl, r_kBl, r_mBl, r_truthR, r_kTruth, truth, r_mTruth, r_kIfT, r_kIfF, r_if, r_sif, r_cRet, r_and, r_or, r_kNot, r_not, r_kNotB, r_bnot, r_band, r_bor, r_true, r_kCh3T, r_kCh3F, r_kCh2, r_kCh1, r_chain, r_kOpt, r_pNone, r_pSome, r_kSl3, r_kSl2, r_kSl1, r_sl, r_kM2, r_kM1, r_m1, r_kOfL, r_kOfT, r_of, r_kRange1, r_kRange2, r_range, r_kZipL, r_kZipT, r_zip, r_kLc, r_lc, r_totR, r_mtot, r_setR, r_kLc2, r_kLc1T, r_kLc1F, r_kLc0, r_lcL0, r_lcL, r_kSeqN, r_kSeqR, r_kSeqB, r_kSeqC, r_seq, r_snil, r_brk, r_cont, r_asgR, r_kAsg, r_asg, r_kPar, r_par, r_kPar3, r_par3, r_kRet, r_ret, r_kExpr, r_expr, r_raise, r_kSet3, r_kSet2, r_kSet1, r_set, r_kFor, r_for, r_kForLN, r_kForLC, r_kForLB, r_kForLR, r_kForL0, r_forL0, r_forL, r_kEndN, r_kEndR, f1, f2, gIx, atI, ixN, gLen, gAbs, gInt, gTuple, gIsi, tyOf, isTy, gAdd, gMul, iBin_t, iMod_k, iDiv_k, iMul_k, iPow_k, iNeg, tAddO, lAdd, sAdd, lRep, tRep, gIsN, isNon, gIn, inF, eqF, gEqB, tp_non, tp_bl, tp_int, tp_str, tp_tup, tp_loc, allPy, PyData.eqv, PyData.eqvAll, Tg.set, Tgs.set, rBound, forR, forT, lcR, lcT, rangeD, wipeE, noLoc, noLocs, gAll, allBl, ieq, like_l, likeR, plains, plainD, likePs, likeP, r_nxR, r_nxLoc, r_zipR, r_zipR0, r_zipR1, r_nxZip, r_orR, r_orRx, r_kK2, r_kK1T, r_kK1F, r_kK0, r_lcKa0, r_lcKa1, r_lcK, r_kF1N, r_kF1C, r_kF1B, r_kF1R, r_kF0, r_forFa0, r_forFa1, r_forF, r_errW, r_errO, r_errE, r_err, gGcd, r_kRaiseL, r_raiseL, r_orT2T, r_orT2F, r_kOrT, r_orT, gBits, gRev, gStr, gSl, Mir.cutD, HT.sIx, Rets, m_is_unit, b_is_unit, need_number_i d.nu, iso_pure (φ := m_fits) (ds := [.int n, .tup [.int x]]) (v := .bl false) (by simp [r_fnM, bR_ok, bR_exc, bR_bad, liftR_some, liftR_none, varR_some, r_var, r_c, r_kB2, r_kB1, r_bin, r_kUn, r_un, r_kC2, r_kC1, r_nil, r_cons, r_kTup, r_kLst, r_tup, r_lst, r_kCall, r_call, r_fn, r_fnl2, r_fnlR, r_fnl, r_kBl, r_mBl, r_truthR, r_kTruth, truth, r_mTruth, r_kIfT, r_kIfF, r_if, r_sif, r_cRet, r_and, r_or, r_kNot, r_not, r_kNotB, r_bnot, r_band, r_bor, r_true, r_kCh3T, r_kCh3F, r_kCh2, r_kCh1, r_chain, r_kOpt, r_pNone, r_pSome, r_kSl3, r_kSl2, r_kSl1, r_sl, r_kM2, r_kM1, r_m1, r_kOfL, r_kOfT, r_of, r_kRange1, r_kRange2, r_range, r_kZipL, r_kZipT, r_zip, r_kLc, r_lc, r_totR, r_mtot, r_setR, r_kLc2, r_kLc1T, r_kLc1F, r_kLc0, r_lcL0, r_lcL, r_kSeqN, r_kSeqR, r_kSeqB, r_kSeqC, r_seq, r_snil, r_brk, r_cont, r_asgR, r_kAsg, r_asg, r_kPar, r_par, r_kPar3, r_par3, r_kRet, r_ret, r_kExpr, r_expr, r_raise, r_kSet3, r_kSet2, r_kSet1, r_set, r_kFor, r_for, r_kForLN, r_kForLC, r_kForLB, r_kForLR, r_kForL0, r_forL0, r_forL, r_kEndN, r_kEndR, f1, f2, gIx, atI, ixN, gLen, gAbs, gInt, gTuple, gIsi, tyOf, isTy, gAdd, gMul, iBin_t, iMod_k, iDiv_k, iMul_k, iPow_k, iNeg, tAddO, lAdd, sAdd, lRep, tRep, gIsN, isNon, gIn, inF, eqF, gEqB, tp_non, tp_bl, tp_int, tp_str, tp_tup, tp_loc, allPy, PyData.eqv, PyData.eqvAll, Tg.set, Tgs.set, rBound, forR, forT, lcR, lcT, rangeD, wipeE, noLoc, noLocs, gAll, allBl, ieq, like_l, likeR, plains, plainD, likePs, likeP, r_nxR, r_nxLoc, r_zipR, r_zipR0, r_zipR1, r_nxZip, r_orR, r_orRx, r_kK2, r_kK1T, r_kK1F, r_kK0, r_lcKa0, r_lcKa1, r_lcK, r_kF1N, r_kF1C, r_kF1B, r_kF1R, r_kF0, r_forFa0, r_forFa1, r_forF, r_errW, r_errO, r_errE, r_err, gGcd, r_kRaiseL, r_raiseL, r_orT2T, r_orT2F, r_kOrT, r_orT, gBits, gRev, gStr, gSl, Mir.cutD, HT.sIx, Rets, m_fits, b_fits, tof_i]) rfl rfl]) rfl rfl st, iso_pure (by simp [r_fnM, bR_ok, bR_exc, bR_bad, liftR_some, liftR_none, varR_some, r_var, r_c, r_kB2, r_kB1, r_bin, r_kUn, r_un, r_kC2, r_kC1, r_nil, r_cons, r_kTup, r_kLst, r_tup, r_lst, r_kCall, r_call, r_fn, r_fnl2, r_fnlR, r_fnl, r_kBl, r_mBl, r_truthR, r_kTruth, truth, r_mTruth, r_kIfT, r_kIfF, r_if, r_sif, r_cRet, r_and, r_or, r_kNot, r_not, r_kNotB, r_bnot, r_band, r_bor, r_true, r_kCh3T, r_kCh3F, r_kCh2, r_kCh1, r_chain, r_kOpt, r_pNone, r_pSome, r_kSl3, r_kSl2, r_kSl1, r_sl, r_kM2, r_kM1, r_m1, r_kOfL, r_kOfT, r_of, r_kRange1, r_kRange2, r_range, r_kZipL, r_kZipT, r_zip, r_kLc, r_lc, r_totR, r_mtot, r_setR, r_kLc2, r_kLc1T, r_kLc1F, r_kLc0, r_lcL0, r_lcL, r_kSeqN, r_kSeqR, r_kSeqB, r_kSeqC, r_seq, r_snil, r_brk, r_cont, r_asgR, r_kAsg, r_asg, r_kPar, r_par, r_kPar3, r_par3, r_kRet, r_ret, r_kExpr, r_expr, r_raise, r_kSet3, r_kSet2, r_kSet1, r_set, r_kFor, r_for, r_kForLN, r_kForLC, r_kForLB, r_kForLR, r_kForL0, r_forL0, r_forL, r_kEndN, r_kEndR, f1, f2, gIx, atI, ixN, gLen, gAbs, gInt, gTuple, gIsi, tyOf, isTy, gAdd, gMul, iBin_t, iMod_k, iDiv_k, iMul_k, iPow_k, iNeg, tAddO, lAdd, sAdd, lRep, tRep, gIsN, isNon, gIn, inF, eqF, gEqB, tp_non, tp_bl, tp_int, tp_str, tp_tup, tp_loc, allPy, PyData.eqv, PyData.eqvAll, Tg.set, Tgs.set, rBound, forR, forT, lcR, lcT, rangeD, wipeE, noLoc, noLocs, gAll, allBl, ieq, like_l, likeR, plains, plainD, likePs, likeP, r_nxR, r_nxLoc, r_zipR, r_zipR0, r_zipR1, r_nxZip, r_orR, r_orRx, r_kK2, r_kK1T, r_kK1F, r_kK0, r_lcKa0, r_lcKa1, r_lcK, r_kF1N, r_kF1C, r_kF1B, r_kF1R, r_kF0, r_forFa0, r_forFa1, r_forF, r_errW, r_errO, r_errE, r_err, gGcd, r_kRaiseL, r_raiseL, r_orT2T, r_orT2F, r_kOrT, r_orT, gBits, gRev, gStr, gSl, Mir.cutD, HT.sIx, Rets, m_law_is_unit, b_law_is_unit, so_tup]) rfl rfl st⟩
theorem ag_3 (d : Nm n m s) {x y z : Int} (st : Store) : Ag n (.tup [.int x, .int y, .int z]) st :=
  ⟨false, iso_pure (by simp [r_fnM, bR_ok, bR_exc, bR_bad, liftR_some, liftR_none, varR_some, r_var, r_c, r_kB2, r_kB1, r_bin, r_kUn, r_un, r_kC2, r_kC1, r_nil, r_cons, r_kTup, r_kLst, r_tup, r_lst, r_kCall, r_call, r_fn, r_fnl2, r_fnlR, r_fnl, r_kBl, r_mBl, r_truthR, r_kTruth, truth, r_mTruth, r_kIfT, r_kIfF, r_if, r_sif, r_cRet, r_and, r_or, r_kNot, r_not, r_kNotB, r_bnot, r_band, r_bor, r_true, r_kCh3T, r_kCh3F, r_kCh2, r_kCh1, r_chain, r_kOpt, r_pNone, r_pSome, r_kSl3, r_kSl2, r_kSl1, r_sl, r_kM2, r_kM1, r_m1, r_kOfL, r_kOfT, r_of, r_kRange1, r_kRange2, r_range, r_kZipL, r_kZipT, r_zip, r_kLc, r_lc, r_totR, r_mtot, r_setR, r_kLc2, r_kLc1T, r_kLc1F, r_kLc0, r_lcL0, r_lcL, r_kSeqN, r_kSeqR, r_kSeqB, r_kSeqC, r_seq, r_snil, r_brk, r_cont, r_asgR, r_kAsg, r_asg, r_kPar, r_par, r_kPar3, r_par3, r_kRet, r_ret, r_kExpr, r_expr, r_raise, r_kSet3, r_kSet2, r_kSet1, r_set, r_kFor, r_for, r_kForLN, r_kForLC, r_kForLB, r_kForLR, r_kForL0, r_forL0, r_forL, r_kEndN, r_kEndR, f1, f2, gIx, atI, ixN, gLen, gAbs, gInt, gTuple, gIsi, tyOf, isTy, gAdd, gMul, iBin_t, iMod_k, iDiv_k, iMul_k, iPow_k, iNeg, tAddO, lAdd, sAdd, lRep, tRep, gIsN, isNon, gIn, inF, eqF, gEqB, tp_non, tp_bl, tp_int, tp_str, tp_tup, tp_loc, allPy, PyData.eqv, PyData.eqvAll, Tg.set, Tgs.set, rBound, forR, forT, lcR, lcT, rangeD, wipeE, noLoc, noLocs, gAll, allBl, ieq, like_l, likeR, plains, plainD, likePs, likeP, r_nxR, r_nxLoc, r_zipR, r_zipR0, r_zipR1, r_nxZip, r_orR, r_orRx, r_kK2, r_kK1T, r_kK1F, r_kK0, r_lcKa0, r_lcKa1, r_lcK, r_kF1N, r_kF1C, r_kF1B, r_kF1R, r_kF0, r_forFa0, r_forFa1, r_forF, r_errW, r_errO, r_errE, r_err, gGcd, r_kRaiseL, r_raiseL, r_orT2T, r_orT2F, r_kOrT, r_orT, gBits, gRev, gStr, gSl, Mir.cutD, HT.sIx, Rets, m_is_unit, b_is_unit, need_number_i d.nu, iso_pure (φ := m_fits) (ds := [.int n, .tup [.int x, .int y, .int z]]) (v := .bl false) (by simp [r_fnM, bR_ok, bR_exc, bR_bad, liftR_some, liftR_none, varR_some, r_var, r_c, r_kB2, r_kB1, r_bin, r_kUn, r_un, r_kC2, r_kC1, r_nil, r_cons, r_kTup, r_kLst, r_tup, r_lst, r_kCall, r_call, r_fn, r_fnl2, r_fnlR, r_fnl, r_kBl, r_mBl, r_truthR, r_kTruth, truth, r_mTruth, r_kIfT, r_kIfF, r_if, r_sif, r_cRet, r_and, r_or, r_kNot, r_not, r_kNotB, r_bnot, r_band, r_bor, r_true, r_kCh3T, r_kCh3F, r_kCh2, r_kCh1, r_chain, r_kOpt, r_pNone, r_pSome, r_kSl3, r_kSl2, r_kSl1, r_sl, r_kM2, r_kM1, r_m1, r_kOfL, r_kOfT, r_of, r_kRange1, r_kRange2, r_range, r_kZipL, r_kZipT, r_zip, r_kLc, r_lc, r_totR, r_mtot, r_setR, r_kLc2, r_kLc1T, r_kLc1F, r_kLc0, r_lcL0, r_lcL, r_kSeqN, r_kSeqR, r_kSeqB, r_kSeqC, r_seq, r_snil, r_brk, r_cont, r_asgR, r_kAsg, r_asg, r_kPar, r_par, r_kPar3, r_par3, r_kRet, r_ret, r_kExpr, r_expr, r_raise, r_kSet3, r_kSet2, r_kSet1, r_set, r_kFor, r_for, r_kForLN, r_kForLC, r_kForLB, r_kForLR, r_kForL0, r_forL0, r_forL, r_kEndN, r_kEndR, f1, f2, gIx, atI, ixN, gLen, gAbs, gInt, gTuple, gIsi, tyOf, isTy, gAdd, gMul, iBin_t, iMod_k, iDiv_k, iMul_k, iPow_k, iNeg, tAddO, lAdd, sAdd, lRep, tRep, gIsN, isNon, gIn, inF, eqF, gEqB, tp_non, tp_bl, tp_int, tp_str, tp_tup, tp_loc, allPy, PyData.eqv, PyData.eqvAll, Tg.set, Tgs.set, rBound, forR, forT, lcR, lcT, rangeD, wipeE, noLoc, noLocs, gAll, allBl, ieq, like_l, likeR, plains, plainD, likePs, likeP, r_nxR, r_nxLoc, r_zipR, r_zipR0, r_zipR1, r_nxZip, r_orR, r_orRx, r_kK2, r_kK1T, r_kK1F, r_kK0, r_lcKa0, r_lcKa1, r_lcK, r_kF1N, r_kF1C, r_kF1B, r_kF1R, r_kF0, r_forFa0, r_forFa1, r_forF, r_errW, r_errO, r_errE, r_err, gGcd, r_kRaiseL, r_raiseL, r_orT2T, r_orT2F, r_kOrT, r_orT, gBits, gRev, gStr, gSl, Mir.cutD, HT.sIx, Rets, m_fits, b_fits, tof_i]) rfl rfl]) rfl rfl st, iso_pure (by simp [r_fnM, bR_ok, bR_exc, bR_bad, liftR_some, liftR_none, varR_some, r_var, r_c, r_kB2, r_kB1, r_bin, r_kUn, r_un, r_kC2, r_kC1, r_nil, r_cons, r_kTup, r_kLst, r_tup, r_lst, r_kCall, r_call, r_fn, r_fnl2, r_fnlR, r_fnl, r_kBl, r_mBl, r_truthR, r_kTruth, truth, r_mTruth, r_kIfT, r_kIfF, r_if, r_sif, r_cRet, r_and, r_or, r_kNot, r_not, r_kNotB, r_bnot, r_band, r_bor, r_true, r_kCh3T, r_kCh3F, r_kCh2, r_kCh1, r_chain, r_kOpt, r_pNone, r_pSome, r_kSl3, r_kSl2, r_kSl1, r_sl, r_kM2, r_kM1, r_m1, r_kOfL, r_kOfT, r_of, r_kRange1, r_kRange2, r_range, r_kZipL, r_kZipT, r_zip, r_kLc, r_lc, r_totR, r_mtot, r_setR, r_kLc2, r_kLc1T, r_kLc1F, r_kLc0, r_lcL0, r_lcL, r_kSeqN, r_kSeqR, r_kSeqB, r_kSeqC, r_seq, r_snil, r_brk, r_cont, r_asgR, r_kAsg, r_asg, r_kPar, r_par, r_kPar3, r_par3, r_kRet, r_ret, r_kExpr, r_expr, r_raise, r_kSet3, r_kSet2, r_kSet1, r_set, r_kFor, r_for, r_kForLN, r_kForLC, r_kForLB, r_kForLR, r_kForL0, r_forL0, r_forL, r_kEndN, r_kEndR, f1, f2, gIx, atI, ixN, gLen, gAbs, gInt, gTuple, gIsi, tyOf, isTy, gAdd, gMul, iBin_t, iMod_k, iDiv_k, iMul_k, iPow_k, iNeg, tAddO, lAdd, sAdd, lRep, tRep, gIsN, isNon, gIn, inF, eqF, gEqB, tp_non, tp_bl, tp_int, tp_str, tp_tup, tp_loc, allPy, PyData.eqv, PyData.eqvAll, Tg.set, Tgs.set, rBound, forR, forT, lcR, lcT, rangeD, wipeE, noLoc, noLocs, gAll, allBl, ieq, like_l, likeR, plains, plainD, likePs, likeP, r_nxR, r_nxLoc, r_zipR, r_zipR0, r_zipR1, r_nxZip, r_orR, r_orRx, r_kK2, r_kK1T, r_kK1F, r_kK0, r_lcKa0, r_lcKa1, r_lcK, r_kF1N, r_kF1C, r_kF1B, r_kF1R, r_kF0, r_forFa0, r_forFa1, r_forF, r_errW, r_errO, r_errE, r_err, gGcd, r_kRaiseL, r_raiseL, r_orT2T, r_orT2F, r_kOrT, r_orT, gBits, gRev, gStr, gSl, Mir.cutD, HT.sIx, Rets, m_law_is_unit, b_law_is_unit, so_tup]) rfl rfl st⟩
theorem ii_n (st : Store) : iso m_is_integer [.non] st = .ok (.bl false) st := iso_pure (by simp [r_fnM, bR_ok, bR_exc, bR_bad, liftR_some, liftR_none, varR_some, r_var, r_c, r_kB2, r_kB1, r_bin, r_kUn, r_un, r_kC2, r_kC1, r_nil, r_cons, r_kTup, r_kLst, r_tup, r_lst, r_kCall, r_call, r_fn, r_fnl2, r_fnlR, r_fnl, r_kBl, r_mBl, r_truthR, r_kTruth, truth, r_mTruth, r_kIfT, r_kIfF, r_if, r_sif, r_cRet, r_and, r_or, r_kNot, r_not, r_kNotB, r_bnot, r_band, r_bor, r_true, r_kCh3T, r_kCh3F, r_kCh2, r_kCh1, r_chain, r_kOpt, r_pNone, r_pSome, r_kSl3, r_kSl2, r_kSl1, r_sl, r_kM2, r_kM1, r_m1, r_kOfL, r_kOfT, r_of, r_kRange1, r_kRange2, r_range, r_kZipL, r_kZipT, r_zip, r_kLc, r_lc, r_totR, r_mtot, r_setR, r_kLc2, r_kLc1T, r_kLc1F, r_kLc0, r_lcL0, r_lcL, r_kSeqN, r_kSeqR, r_kSeqB, r_kSeqC, r_seq, r_snil, r_brk, r_cont, r_asgR, r_kAsg, r_asg, r_kPar, r_par, r_kPar3, r_par3, r_kRet, r_ret, r_kExpr, r_expr, r_raise, r_kSet3, r_kSet2, r_kSet1, r_set, r_kFor, r_for, r_kForLN, r_kForLC, r_kForLB, r_kForLR, r_kForL0, r_forL0, r_forL, r_kEndN, r_kEndR, f1, f2, gIx, atI, ixN, gLen, gAbs, gInt, gTuple, gIsi, tyOf, isTy, gAdd, gMul, iBin_t, iMod_k, iDiv_k, iMul_k, iPow_k, iNeg, tAddO, lAdd, sAdd, lRep, tRep, gIsN, isNon, gIn, inF, eqF, gEqB, tp_non, tp_bl, tp_int, tp_str, tp_tup, tp_loc, allPy, PyData.eqv, PyData.eqvAll, Tg.set, Tgs.set, rBound, forR, forT, lcR, lcT, rangeD, wipeE, noLoc, noLocs, gAll, allBl, ieq, like_l, likeR, plains, plainD, likePs, likeP, r_nxR, r_nxLoc, r_zipR, r_zipR0, r_zipR1, r_nxZip, r_orR, r_orRx, r_kK2, r_kK1T, r_kK1F, r_kK0, r_lcKa0, r_lcKa1, r_lcK, r_kF1N, r_kF1C, r_kF1B, r_kF1R, r_kF0, r_forFa0, r_forFa1, r_forF, r_errW, r_errO, r_errE, r_err, gGcd, r_kRaiseL, r_raiseL, r_orT2T, r_orT2F, r_kOrT, r_orT, gBits, gRev, gStr, gSl, Mir.cutD, HT.sIx, Rets, m_is_integer, b_is_integer]) rfl rfl st
theorem ii_s (z : Str) (st : Store) : iso m_is_integer [.str z] st = .ok (.bl false) st := iso_pure (by simp [r_fnM, bR_ok, bR_exc, bR_bad, liftR_some, liftR_none, varR_some, r_var, r_c, r_kB2, r_kB1, r_bin, r_kUn, r_un, r_kC2, r_kC1, r_nil, r_cons, r_kTup, r_kLst, r_tup, r_lst, r_kCall, r_call, r_fn, r_fnl2, r_fnlR, r_fnl, r_kBl, r_mBl, r_truthR, r_kTruth, truth, r_mTruth, r_kIfT, r_kIfF, r_if, r_sif, r_cRet, r_and, r_or, r_kNot, r_not, r_kNotB, r_bnot, r_band, r_bor, r_true, r_kCh3T, r_kCh3F, r_kCh2, r_kCh1, r_chain, r_kOpt, r_pNone, r_pSome, r_kSl3, r_kSl2, r_kSl1, r_sl, r_kM2, r_kM1, r_m1, r_kOfL, r_kOfT, r_of, r_kRange1, r_kRange2, r_range, r_kZipL, r_kZipT, r_zip, r_kLc, r_lc, r_totR, r_mtot, r_setR, r_kLc2, r_kLc1T, r_kLc1F, r_kLc0, r_lcL0, r_lcL, r_kSeqN, r_kSeqR, r_kSeqB, r_kSeqC, r_seq, r_snil, r_brk, r_cont, r_asgR, r_kAsg, r_asg, r_kPar, r_par, r_kPar3, r_par3, r_kRet, r_ret, r_kExpr, r_expr, r_raise, r_kSet3, r_kSet2, r_kSet1, r_set, r_kFor, r_for, r_kForLN, r_kForLC, r_kForLB, r_kForLR, r_kForL0, r_forL0, r_forL, r_kEndN, r_kEndR, f1, f2, gIx, atI, ixN, gLen, gAbs, gInt, gTuple, gIsi, tyOf, isTy, gAdd, gMul, iBin_t, iMod_k, iDiv_k, iMul_k, iPow_k, iNeg, tAddO, lAdd, sAdd, lRep, tRep, gIsN, isNon, gIn, inF, eqF, gEqB, tp_non, tp_bl, tp_int, tp_str, tp_tup, tp_loc, allPy, PyData.eqv, PyData.eqvAll, Tg.set, Tgs.set, rBound, forR, forT, lcR, lcT, rangeD, wipeE, noLoc, noLocs, gAll, allBl, ieq, like_l, likeR, plains, plainD, likePs, likeP, r_nxR, r_nxLoc, r_zipR, r_zipR0, r_zipR1, r_nxZip, r_orR, r_orRx, r_kK2, r_kK1T, r_kK1F, r_kK0, r_lcKa0, r_lcKa1, r_lcK, r_kF1N, r_kF1C, r_kF1B, r_kF1R, r_kF0, r_forFa0, r_forFa1, r_forF, r_errW, r_errO, r_errE, r_err, gGcd, r_kRaiseL, r_raiseL, r_orT2T, r_orT2F, r_kOrT, r_orT, gBits, gRev, gStr, gSl, Mir.cutD, HT.sIx, Rets, m_is_integer, b_is_integer]) rfl rfl st
theorem ag_n (d : Nm n m s) {x : Int} (st : Store) : Ag n (.tup [.int x, .non]) st :=
  ⟨false, iso_pure (by simp [r_fnM, bR_ok, bR_exc, bR_bad, liftR_some, liftR_none, varR_some, r_var, r_c, r_kB2, r_kB1, r_bin, r_kUn, r_un, r_kC2, r_kC1, r_nil, r_cons, r_kTup, r_kLst, r_tup, r_lst, r_kCall, r_call, r_fn, r_fnl2, r_fnlR, r_fnl, r_kBl, r_mBl, r_truthR, r_kTruth, truth, r_mTruth, r_kIfT, r_kIfF, r_if, r_sif, r_cRet, r_and, r_or, r_kNot, r_not, r_kNotB, r_bnot, r_band, r_bor, r_true, r_kCh3T, r_kCh3F, r_kCh2, r_kCh1, r_chain, r_kOpt, r_pNone, r_pSome, r_kSl3, r_kSl2, r_kSl1, r_sl, r_kM2, r_kM1, r_m1, r_kOfL, r_kOfT, r_of, r_kRange1, r_kRange2, r_range, r_kZipL, r_kZipT, r_zip, r_kLc, r_lc, r_totR, r_mtot, r_setR, r_kLc2, r_kLc1T, r_kLc1F, r_kLc0, r_lcL0, r_lcL, r_kSeqN, r_kSeqR, r_kSeqB, r_kSeqC, r_seq, r_snil, r_brk, r_cont, r_asgR, r_kAsg, r_asg, r_kPar, r_par, r_kPar3, r_par3, r_kRet, r_ret, r_kExpr, r_expr, r_raise, r_kSet3, r_kSet2, r_kSet1, r_set, r_kFor, r_for, r_kForLN, r_kForLC, r_kForLB, r_kForLR, r_kForL0, r_forL0, r_forL, r_kEndN, r_kEndR, f1, f2, gIx, atI, ixN, gLen, gAbs, gInt, gTuple, gIsi, tyOf, isTy, gAdd, gMul, iBin_t, iMod_k, iDiv_k, iMul_k, iPow_k, iNeg, tAddO, lAdd, sAdd, lRep, tRep, gIsN, isNon, gIn, inF, eqF, gEqB, tp_non, tp_bl, tp_int, tp_str, tp_tup, tp_loc, allPy, PyData.eqv, PyData.eqvAll, Tg.set, Tgs.set, rBound, forR, forT, lcR, lcT, rangeD, wipeE, noLoc, noLocs, gAll, allBl, ieq, like_l, likeR, plains, plainD, likePs, likeP, r_nxR, r_nxLoc, r_zipR, r_zipR0, r_zipR1, r_nxZip, r_orR, r_orRx, r_kK2, r_kK1T, r_kK1F, r_kK0, r_lcKa0, r_lcKa1, r_lcK, r_kF1N, r_kF1C, r_kF1B, r_kF1R, r_kF0, r_forFa0, r_forFa1, r_forF, r_errW, r_errO, r_errE, r_err, gGcd, r_kRaiseL, r_raiseL, r_orT2T, r_orT2F, r_kOrT, r_orT, gBits, gRev, gStr, gSl, Mir.cutD, HT.sIx, Rets, m_is_unit, b_is_unit, need_number_i d.nu, iso_pure (φ := m_fits) (ds := [.int n, .tup [.int x, .non]]) (v := .bl false) (by simp [r_fnM, bR_ok, bR_exc, bR_bad, liftR_some, liftR_none, varR_some, r_var, r_c, r_kB2, r_kB1, r_bin, r_kUn, r_un, r_kC2, r_kC1, r_nil, r_cons, r_kTup, r_kLst, r_tup, r_lst, r_kCall, r_call, r_fn, r_fnl2, r_fnlR, r_fnl, r_kBl, r_mBl, r_truthR, r_kTruth, truth, r_mTruth, r_kIfT, r_kIfF, r_if, r_sif, r_cRet, r_and, r_or, r_kNot, r_not, r_kNotB, r_bnot, r_band, r_bor, r_true, r_kCh3T, r_kCh3F, r_kCh2, r_kCh1, r_chain, r_kOpt, r_pNone, r_pSome, r_kSl3, r_kSl2, r_kSl1, r_sl, r_kM2, r_kM1, r_m1, r_kOfL, r_kOfT, r_of, r_kRange1, r_kRange2, r_range, r_kZipL, r_kZipT, r_zip, r_kLc, r_lc, r_totR, r_mtot, r_setR, r_kLc2, r_kLc1T, r_kLc1F, r_kLc0, r_lcL0, r_lcL, r_kSeqN, r_kSeqR, r_kSeqB, r_kSeqC, r_seq, r_snil, r_brk, r_cont, r_asgR, r_kAsg, r_asg, r_kPar, r_par, r_kPar3, r_par3, r_kRet, r_ret, r_kExpr, r_expr, r_raise, r_kSet3, r_kSet2, r_kSet1, r_set, r_kFor, r_for, r_kForLN, r_kForLC, r_kForLB, r_kForLR, r_kForL0, r_forL0, r_forL, r_kEndN, r_kEndR, f1, f2, gIx, atI, ixN, gLen, gAbs, gInt, gTuple, gIsi, tyOf, isTy, gAdd, gMul, iBin_t, iMod_k, iDiv_k, iMul_k, iPow_k, iNeg, tAddO, lAdd, sAdd, lRep, tRep, gIsN, isNon, gIn, inF, eqF, gEqB, tp_non, tp_bl, tp_int, tp_str, tp_tup, tp_loc, allPy, PyData.eqv, PyData.eqvAll, Tg.set, Tgs.set, rBound, forR, forT, lcR, lcT, rangeD, wipeE, noLoc, noLocs, gAll, allBl, ieq, like_l, likeR, plains, plainD, likePs, likeP, r_nxR, r_nxLoc, r_zipR, r_zipR0, r_zipR1, r_nxZip, r_orR, r_orRx, r_kK2, r_kK1T, r_kK1F, r_kK0, r_lcKa0, r_lcKa1, r_lcK, r_kF1N, r_kF1C, r_kF1B, r_kF1R, r_kF0, r_forFa0, r_forFa1, r_forF, r_errW, r_errO, r_errE, r_err, gGcd, r_kRaiseL, r_raiseL, r_orT2T, r_orT2F, r_kOrT, r_orT, gBits, gRev, gStr, gSl, Mir.cutD, HT.sIx, Rets, m_fits, b_fits, tof_i, is_integer_i, ii_n]) rfl rfl]) rfl rfl st, iso_pure (by simp [r_fnM, bR_ok, bR_exc, bR_bad, liftR_some, liftR_none, varR_some, r_var, r_c, r_kB2, r_kB1, r_bin, r_kUn, r_un, r_kC2, r_kC1, r_nil, r_cons, r_kTup, r_kLst, r_tup, r_lst, r_kCall, r_call, r_fn, r_fnl2, r_fnlR, r_fnl, r_kBl, r_mBl, r_truthR, r_kTruth, truth, r_mTruth, r_kIfT, r_kIfF, r_if, r_sif, r_cRet, r_and, r_or, r_kNot, r_not, r_kNotB, r_bnot, r_band, r_bor, r_true, r_kCh3T, r_kCh3F, r_kCh2, r_kCh1, r_chain, r_kOpt, r_pNone, r_pSome, r_kSl3, r_kSl2, r_kSl1, r_sl, r_kM2, r_kM1, r_m1, r_kOfL, r_kOfT, r_of, r_kRange1, r_kRange2, r_range, r_kZipL, r_kZipT, r_zip, r_kLc, r_lc, r_totR, r_mtot, r_setR, r_kLc2, r_kLc1T, r_kLc1F, r_kLc0, r_lcL0, r_lcL, r_kSeqN, r_kSeqR, r_kSeqB, r_kSeqC, r_seq, r_snil, r_brk, r_cont, r_asgR, r_kAsg, r_asg, r_kPar, r_par, r_kPar3, r_par3, r_kRet, r_ret, r_kExpr, r_expr, r_raise, r_kSet3, r_kSet2, r_kSet1, r_set, r_kFor, r_for, r_kForLN, r_kForLC, r_kForLB, r_kForLR, r_kForL0, r_forL0, r_forL, r_kEndN, r_kEndR, f1, f2, gIx, atI, ixN, gLen, gAbs, gInt, gTuple, gIsi, tyOf, isTy, gAdd, gMul, iBin_t, iMod_k, iDiv_k, iMul_k, iPow_k, iNeg, tAddO, lAdd, sAdd, lRep, tRep, gIsN, isNon, gIn, inF, eqF, gEqB, tp_non, tp_bl, tp_int, tp_str, tp_tup, tp_loc, allPy, PyData.eqv, PyData.eqvAll, Tg.set, Tgs.set, rBound, forR, forT, lcR, lcT, rangeD, wipeE, noLoc, noLocs, gAll, allBl, ieq, like_l, likeR, plains, plainD, likePs, likeP, r_nxR, r_nxLoc, r_zipR, r_zipR0, r_zipR1, r_nxZip, r_orR, r_orRx, r_kK2, r_kK1T, r_kK1F, r_kK0, r_lcKa0, r_lcKa1, r_lcK, r_kF1N, r_kF1C, r_kF1B, r_kF1R, r_kF0, r_forFa0, r_forFa1, r_forF, r_errW, r_errO, r_errE, r_err, gGcd, r_kRaiseL, r_raiseL, r_orT2T, r_orT2F, r_kOrT, r_orT, gBits, gRev, gStr, gSl, Mir.cutD, HT.sIx, Rets, m_law_is_unit, b_law_is_unit, so_tup, so_int, so_non]) rfl rfl st⟩
theorem ag_s (d : Nm n m s) {z : String} {x : Int} (st : Store) : Ag n (.tup [.str (Str.ofString z), .int x]) st :=
  ⟨false, iso_pure (by simp [r_fnM, bR_ok, bR_exc, bR_bad, liftR_some, liftR_none, varR_some, r_var, r_c, r_kB2, r_kB1, r_bin, r_kUn, r_un, r_kC2, r_kC1, r_nil, r_cons, r_kTup, r_kLst, r_tup, r_lst, r_kCall, r_call, r_fn, r_fnl2, r_fnlR, r_fnl, r_kBl, r_mBl, r_truthR, r_kTruth, truth, r_mTruth, r_kIfT, r_kIfF, r_if, r_sif, r_cRet, r_and, r_or, r_kNot, r_not, r_kNotB, r_bnot, r_band, r_bor, r_true, r_kCh3T, r_kCh3F, r_kCh2, r_kCh1, r_chain, r_kOpt, r_pNone, r_pSome, r_kSl3, r_kSl2, r_kSl1, r_sl, r_kM2, r_kM1, r_m1, r_kOfL, r_kOfT, r_of, r_kRange1, r_kRange2, r_range, r_kZipL, r_kZipT, r_zip, r_kLc, r_lc, r_totR, r_mtot, r_setR, r_kLc2, r_kLc1T, r_kLc1F, r_kLc0, r_lcL0, r_lcL, r_kSeqN, r_kSeqR, r_kSeqB, r_kSeqC, r_seq, r_snil, r_brk, r_cont, r_asgR, r_kAsg, r_asg, r_kPar, r_par, r_kPar3, r_par3, r_kRet, r_ret, r_kExpr, r_expr, r_raise, r_kSet3, r_kSet2, r_kSet1, r_set, r_kFor, r_for, r_kForLN, r_kForLC, r_kForLB, r_kForLR, r_kForL0, r_forL0, r_forL, r_kEndN, r_kEndR, f1, f2, gIx, atI, ixN, gLen, gAbs, gInt, gTuple, gIsi, tyOf, isTy, gAdd, gMul, iBin_t, iMod_k, iDiv_k, iMul_k, iPow_k, iNeg, tAddO, lAdd, sAdd, lRep, tRep, gIsN, isNon, gIn, inF, eqF, gEqB, tp_non, tp_bl, tp_int, tp_str, tp_tup, tp_loc, allPy, PyData.eqv, PyData.eqvAll, Tg.set, Tgs.set, rBound, forR, forT, lcR, lcT, rangeD, wipeE, noLoc, noLocs, gAll, allBl, ieq, like_l, likeR, plains, plainD, likePs, likeP, r_nxR, r_nxLoc, r_zipR, r_zipR0, r_zipR1, r_nxZip, r_orR, r_orRx, r_kK2, r_kK1T, r_kK1F, r_kK0, r_lcKa0, r_lcKa1, r_lcK, r_kF1N, r_kF1C, r_kF1B, r_kF1R, r_kF0, r_forFa0, r_forFa1, r_forF, r_errW, r_errO, r_errE, r_err, gGcd, r_kRaiseL, r_raiseL, r_orT2T, r_orT2F, r_kOrT, r_orT, gBits, gRev, gStr, gSl, Mir.cutD, HT.sIx, Rets, m_is_unit, b_is_unit, need_number_i d.nu, iso_pure (φ := m_fits) (ds := [.int n, .tup [.str (Str.ofString z), .int x]]) (v := .bl false) (by simp [r_fnM, bR_ok, bR_exc, bR_bad, liftR_some, liftR_none, varR_some, r_var, r_c, r_kB2, r_kB1, r_bin, r_kUn, r_un, r_kC2, r_kC1, r_nil, r_cons, r_kTup, r_kLst, r_tup, r_lst, r_kCall, r_call, r_fn, r_fnl2, r_fnlR, r_fnl, r_kBl, r_mBl, r_truthR, r_kTruth, truth, r_mTruth, r_kIfT, r_kIfF, r_if, r_sif, r_cRet, r_and, r_or, r_kNot, r_not, r_kNotB, r_bnot, r_band, r_bor, r_true, r_kCh3T, r_kCh3F, r_kCh2, r_kCh1, r_chain, r_kOpt, r_pNone, r_pSome, r_kSl3, r_kSl2, r_kSl1, r_sl, r_kM2, r_kM1, r_m1, r_kOfL, r_kOfT, r_of, r_kRange1, r_kRange2, r_range, r_kZipL, r_kZipT, r_zip, r_kLc, r_lc, r_totR, r_mtot, r_setR, r_kLc2, r_kLc1T, r_kLc1F, r_kLc0, r_lcL0, r_lcL, r_kSeqN, r_kSeqR, r_kSeqB, r_kSeqC, r_seq, r_snil, r_brk, r_cont, r_asgR, r_kAsg, r_asg, r_kPar, r_par, r_kPar3, r_par3, r_kRet, r_ret, r_kExpr, r_expr, r_raise, r_kSet3, r_kSet2, r_kSet1, r_set, r_kFor, r_for, r_kForLN, r_kForLC, r_kForLB, r_kForLR, r_kForL0, r_forL0, r_forL, r_kEndN, r_kEndR, f1, f2, gIx, atI, ixN, gLen, gAbs, gInt, gTuple, gIsi, tyOf, isTy, gAdd, gMul, iBin_t, iMod_k, iDiv_k, iMul_k, iPow_k, iNeg, tAddO, lAdd, sAdd, lRep, tRep, gIsN, isNon, gIn, inF, eqF, gEqB, tp_non, tp_bl, tp_int, tp_str, tp_tup, tp_loc, allPy, PyData.eqv, PyData.eqvAll, Tg.set, Tgs.set, rBound, forR, forT, lcR, lcT, rangeD, wipeE, noLoc, noLocs, gAll, allBl, ieq, like_l, likeR, plains, plainD, likePs, likeP, r_nxR, r_nxLoc, r_zipR, r_zipR0, r_zipR1, r_nxZip, r_orR, r_orRx, r_kK2, r_kK1T, r_kK1F, r_kK0, r_lcKa0, r_lcKa1, r_lcK, r_kF1N, r_kF1C, r_kF1B, r_kF1R, r_kF0, r_forFa0, r_forFa1, r_forF, r_errW, r_errO, r_errE, r_err, gGcd, r_kRaiseL, r_raiseL, r_orT2T, r_orT2F, r_kOrT, r_orT, gBits, gRev, gStr, gSl, Mir.cutD, HT.sIx, Rets, m_fits, b_fits, tof_i, is_integer_i, ii_s]) rfl rfl]) rfl rfl st, iso_pure (by simp [r_fnM, bR_ok, bR_exc, bR_bad, liftR_some, liftR_none, varR_some, r_var, r_c, r_kB2, r_kB1, r_bin, r_kUn, r_un, r_kC2, r_kC1, r_nil, r_cons, r_kTup, r_kLst, r_tup, r_lst, r_kCall, r_call, r_fn, r_fnl2, r_fnlR, r_fnl, r_kBl, r_mBl, r_truthR, r_kTruth, truth, r_mTruth, r_kIfT, r_kIfF, r_if, r_sif, r_cRet, r_and, r_or, r_kNot, r_not, r_kNotB, r_bnot, r_band, r_bor, r_true, r_kCh3T, r_kCh3F, r_kCh2, r_kCh1, r_chain, r_kOpt, r_pNone, r_pSome, r_kSl3, r_kSl2, r_kSl1, r_sl, r_kM2, r_kM1, r_m1, r_kOfL, r_kOfT, r_of, r_kRange1, r_kRange2, r_range, r_kZipL, r_kZipT, r_zip, r_kLc, r_lc, r_totR, r_mtot, r_setR, r_kLc2, r_kLc1T, r_kLc1F, r_kLc0, r_lcL0, r_lcL, r_kSeqN, r_kSeqR, r_kSeqB, r_kSeqC, r_seq, r_snil, r_brk, r_cont, r_asgR, r_kAsg, r_asg, r_kPar, r_par, r_kPar3, r_par3, r_kRet, r_ret, r_kExpr, r_expr, r_raise, r_kSet3, r_kSet2, r_kSet1, r_set, r_kFor, r_for, r_kForLN, r_kForLC, r_kForLB, r_kForLR, r_kForL0, r_forL0, r_forL, r_kEndN, r_kEndR, f1, f2, gIx, atI, ixN, gLen, gAbs, gInt, gTuple, gIsi, tyOf, isTy, gAdd, gMul, iBin_t, iMod_k, iDiv_k, iMul_k, iPow_k, iNeg, tAddO, lAdd, sAdd, lRep, tRep, gIsN, isNon, gIn, inF, eqF, gEqB, tp_non, tp_bl, tp_int, tp_str, tp_tup, tp_loc, allPy, PyData.eqv, PyData.eqvAll, Tg.set, Tgs.set, rBound, forR, forT, lcR, lcT, rangeD, wipeE, noLoc, noLocs, gAll, allBl, ieq, like_l, likeR, plains, plainD, likePs, likeP, r_nxR, r_nxLoc, r_zipR, r_zipR0, r_zipR1, r_nxZip, r_orR, r_orRx, r_kK2, r_kK1T, r_kK1F, r_kK0, r_lcKa0, r_lcKa1, r_lcK, r_kF1N, r_kF1C, r_kF1B, r_kF1R, r_kF0, r_forFa0, r_forFa1, r_forF, r_errW, r_errO, r_errE, r_err, gGcd, r_kRaiseL, r_raiseL, r_orT2T, r_orT2F, r_kOrT, r_orT, gBits, gRev, gStr, gSl, Mir.cutD, HT.sIx, Rets, m_law_is_unit, b_law_is_unit, so_tup, so_int, so_str, strOk]) rfl rfl st⟩
theorem tof_n (lo hi : Int) (st : Store) : iso m_is_tuple_of [.non, .int lo, .int hi] st = .ok (.bl false) st := iso_pure (by simp [r_fnM, bR_ok, bR_exc, bR_bad, liftR_some, liftR_none, varR_some, r_var, r_c, r_kB2, r_kB1, r_bin, r_kUn, r_un, r_kC2, r_kC1, r_nil, r_cons, r_kTup, r_kLst, r_tup, r_lst, r_kCall, r_call, r_fn, r_fnl2, r_fnlR, r_fnl, r_kBl, r_mBl, r_truthR, r_kTruth, truth, r_mTruth, r_kIfT, r_kIfF, r_if, r_sif, r_cRet, r_and, r_or, r_kNot, r_not, r_kNotB, r_bnot, r_band, r_bor, r_true, r_kCh3T, r_kCh3F, r_kCh2, r_kCh1, r_chain, r_kOpt, r_pNone, r_pSome, r_kSl3, r_kSl2, r_kSl1, r_sl, r_kM2, r_kM1, r_m1, r_kOfL, r_kOfT, r_of, r_kRange1, r_kRange2, r_range, r_kZipL, r_kZipT, r_zip, r_kLc, r_lc, r_totR, r_mtot, r_setR, r_kLc2, r_kLc1T, r_kLc1F, r_kLc0, r_lcL0, r_lcL, r_kSeqN, r_kSeqR, r_kSeqB, r_kSeqC, r_seq, r_snil, r_brk, r_cont, r_asgR, r_kAsg, r_asg, r_kPar, r_par, r_kPar3, r_par3, r_kRet, r_ret, r_kExpr, r_expr, r_raise, r_kSet3, r_kSet2, r_kSet1, r_set, r_kFor, r_for, r_kForLN, r_kForLC, r_kForLB, r_kForLR, r_kForL0, r_forL0, r_forL, r_kEndN, r_kEndR, f1, f2, gIx, atI, ixN, gLen, gAbs, gInt, gTuple, gIsi, tyOf, isTy, gAdd, gMul, iBin_t, iMod_k, iDiv_k, iMul_k, iPow_k, iNeg, tAddO, lAdd, sAdd, lRep, tRep, gIsN, isNon, gIn, inF, eqF, gEqB, tp_non, tp_bl, tp_int, tp_str, tp_tup, tp_loc, allPy, PyData.eqv, PyData.eqvAll, Tg.set, Tgs.set, rBound, forR, forT, lcR, lcT, rangeD, wipeE, noLoc, noLocs, gAll, allBl, ieq, like_l, likeR, plains, plainD, likePs, likeP, r_nxR, r_nxLoc, r_zipR, r_zipR0, r_zipR1, r_nxZip, r_orR, r_orRx, r_kK2, r_kK1T, r_kK1F, r_kK0, r_lcKa0, r_lcKa1, r_lcK, r_kF1N, r_kF1C, r_kF1B, r_kF1R, r_kF0, r_forFa0, r_forFa1, r_forF, r_errW, r_errO, r_errE, r_err, gGcd, r_kRaiseL, r_raiseL, r_orT2T, r_orT2F, r_kOrT, r_orT, gBits, gRev, gStr, gSl, Mir.cutD, HT.sIx, Rets, m_is_tuple_of, b_is_tuple_of]) rfl rfl st
theorem tof_z (x lo hi : Int) (st : Store) : iso m_is_tuple_of [.int x, .int lo, .int hi] st = .ok (.bl false) st := iso_pure (by simp [r_fnM, bR_ok, bR_exc, bR_bad, liftR_some, liftR_none, varR_some, r_var, r_c, r_kB2, r_kB1, r_bin, r_kUn, r_un, r_kC2, r_kC1, r_nil, r_cons, r_kTup, r_kLst, r_tup, r_lst, r_kCall, r_call, r_fn, r_fnl2, r_fnlR, r_fnl, r_kBl, r_mBl, r_truthR, r_kTruth, truth, r_mTruth, r_kIfT, r_kIfF, r_if, r_sif, r_cRet, r_and, r_or, r_kNot, r_not, r_kNotB, r_bnot, r_band, r_bor, r_true, r_kCh3T, r_kCh3F, r_kCh2, r_kCh1, r_chain, r_kOpt, r_pNone, r_pSome, r_kSl3, r_kSl2, r_kSl1, r_sl, r_kM2, r_kM1, r_m1, r_kOfL, r_kOfT, r_of, r_kRange1, r_kRange2, r_range, r_kZipL, r_kZipT, r_zip, r_kLc, r_lc, r_totR, r_mtot, r_setR, r_kLc2, r_kLc1T, r_kLc1F, r_kLc0, r_lcL0, r_lcL, r_kSeqN, r_kSeqR, r_kSeqB, r_kSeqC, r_seq, r_snil, r_brk, r_cont, r_asgR, r_kAsg, r_asg, r_kPar, r_par, r_kPar3, r_par3, r_kRet, r_ret, r_kExpr, r_expr, r_raise, r_kSet3, r_kSet2, r_kSet1, r_set, r_kFor, r_for, r_kForLN, r_kForLC, r_kForLB, r_kForLR, r_kForL0, r_forL0, r_forL, r_kEndN, r_kEndR, f1, f2, gIx, atI, ixN, gLen, gAbs, gInt, gTuple, gIsi, tyOf, isTy, gAdd, gMul, iBin_t, iMod_k, iDiv_k, iMul_k, iPow_k, iNeg, tAddO, lAdd, sAdd, lRep, tRep, gIsN, isNon, gIn, inF, eqF, gEqB, tp_non, tp_bl, tp_int, tp_str, tp_tup, tp_loc, allPy, PyData.eqv, PyData.eqvAll, Tg.set, Tgs.set, rBound, forR, forT, lcR, lcT, rangeD, wipeE, noLoc, noLocs, gAll, allBl, ieq, like_l, likeR, plains, plainD, likePs, likeP, r_nxR, r_nxLoc, r_zipR, r_zipR0, r_zipR1, r_nxZip, r_orR, r_orRx, r_kK2, r_kK1T, r_kK1F, r_kK0, r_lcKa0, r_lcKa1, r_lcK, r_kF1N, r_kF1C, r_kF1B, r_kF1R, r_kF0, r_forFa0, r_forFa1, r_forF, r_errW, r_errO, r_errE, r_err, gGcd, r_kRaiseL, r_raiseL, r_orT2T, r_orT2F, r_kOrT, r_orT, gBits, gRev, gStr, gSl, Mir.cutD, HT.sIx, Rets, m_is_tuple_of, b_is_tuple_of]) rfl rfl st
theorem ag_0 (d : Nm n m s) (st : Store) : Ag n .non st :=
  ⟨false, iso_pure (by simp [r_fnM, bR_ok, bR_exc, bR_bad, liftR_some, liftR_none, varR_some, r_var, r_c, r_kB2, r_kB1, r_bin, r_kUn, r_un, r_kC2, r_kC1, r_nil, r_cons, r_kTup, r_kLst, r_tup, r_lst, r_kCall, r_call, r_fn, r_fnl2, r_fnlR, r_fnl, r_kBl, r_mBl, r_truthR, r_kTruth, truth, r_mTruth, r_kIfT, r_kIfF, r_if, r_sif, r_cRet, r_and, r_or, r_kNot, r_not, r_kNotB, r_bnot, r_band, r_bor, r_true, r_kCh3T, r_kCh3F, r_kCh2, r_kCh1, r_chain, r_kOpt, r_pNone, r_pSome, r_kSl3, r_kSl2, r_kSl1, r_sl, r_kM2, r_kM1, r_m1, r_kOfL, r_kOfT, r_of, r_kRange1, r_kRange2, r_range, r_kZipL, r_kZipT, r_zip, r_kLc, r_lc, r_totR, r_mtot, r_setR, r_kLc2, r_kLc1T, r_kLc1F, r_kLc0, r_lcL0, r_lcL, r_kSeqN, r_kSeqR, r_kSeqB, r_kSeqC, r_seq, r_snil, r_brk, r_cont, r_asgR, r_kAsg, r_asg, r_kPar, r_par, r_kPar3, r_par3, r_kRet, r_ret, r_kExpr, r_expr, r_raise, r_kSet3, r_kSet2, r_kSet1, r_set, r_kFor, r_for, r_kForLN, r_kForLC, r_kForLB, r_kForLR, r_kForL0, r_forL0, r_forL, r_kEndN, r_kEndR, f1, f2, gIx, atI, ixN, gLen, gAbs, gInt, gTuple, gIsi, tyOf, isTy, gAdd, gMul, iBin_t, iMod_k, iDiv_k, iMul_k, iPow_k, iNeg, tAddO, lAdd, sAdd, lRep, tRep, gIsN, isNon, gIn, inF, eqF, gEqB, tp_non, tp_bl, tp_int, tp_str, tp_tup, tp_loc, allPy, PyData.eqv, PyData.eqvAll, Tg.set, Tgs.set, rBound, forR, forT, lcR, lcT, rangeD, wipeE, noLoc, noLocs, gAll, allBl, ieq, like_l, likeR, plains, plainD, likePs, likeP, r_nxR, r_nxLoc, r_zipR, r_zipR0, r_zipR1, r_nxZip, r_orR, r_orRx, r_kK2, r_kK1T, r_kK1F, r_kK0, r_lcKa0, r_lcKa1, r_lcK, r_kF1N, r_kF1C, r_kF1B, r_kF1R, r_kF0, r_forFa0, r_forFa1, r_forF, r_errW, r_errO, r_errE, r_err, gGcd, r_kRaiseL, r_raiseL, r_orT2T, r_orT2F, r_kOrT, r_orT, gBits, gRev, gStr, gSl, Mir.cutD, HT.sIx, Rets, m_is_unit, b_is_unit, need_number_i d.nu, iso_pure (φ := m_fits) (ds := [.int n, .non]) (v := .bl false) (by simp [r_fnM, bR_ok, bR_exc, bR_bad, liftR_some, liftR_none, varR_some, r_var, r_c, r_kB2, r_kB1, r_bin, r_kUn, r_un, r_kC2, r_kC1, r_nil, r_cons, r_kTup, r_kLst, r_tup, r_lst, r_kCall, r_call, r_fn, r_fnl2, r_fnlR, r_fnl, r_kBl, r_mBl, r_truthR, r_kTruth, truth, r_mTruth, r_kIfT, r_kIfF, r_if, r_sif, r_cRet, r_and, r_or, r_kNot, r_not, r_kNotB, r_bnot, r_band, r_bor, r_true, r_kCh3T, r_kCh3F, r_kCh2, r_kCh1, r_chain, r_kOpt, r_pNone, r_pSome, r_kSl3, r_kSl2, r_kSl1, r_sl, r_kM2, r_kM1, r_m1, r_kOfL, r_kOfT, r_of, r_kRange1, r_kRange2, r_range, r_kZipL, r_kZipT, r_zip, r_kLc, r_lc, r_totR, r_mtot, r_setR, r_kLc2, r_kLc1T, r_kLc1F, r_kLc0, r_lcL0, r_lcL, r_kSeqN, r_kSeqR, r_kSeqB, r_kSeqC, r_seq, r_snil, r_brk, r_cont, r_asgR, r_kAsg, r_asg, r_kPar, r_par, r_kPar3, r_par3, r_kRet, r_ret, r_kExpr, r_expr, r_raise, r_kSet3, r_kSet2, r_kSet1, r_set, r_kFor, r_for, r_kForLN, r_kForLC, r_kForLB, r_kForLR, r_kForL0, r_forL0, r_forL, r_kEndN, r_kEndR, f1, f2, gIx, atI, ixN, gLen, gAbs, gInt, gTuple, gIsi, tyOf, isTy, gAdd, gMul, iBin_t, iMod_k, iDiv_k, iMul_k, iPow_k, iNeg, tAddO, lAdd, sAdd, lRep, tRep, gIsN, isNon, gIn, inF, eqF, gEqB, tp_non, tp_bl, tp_int, tp_str, tp_tup, tp_loc, allPy, PyData.eqv, PyData.eqvAll, Tg.set, Tgs.set, rBound, forR, forT, lcR, lcT, rangeD, wipeE, noLoc, noLocs, gAll, allBl, ieq, like_l, likeR, plains, plainD, likePs, likeP, r_nxR, r_nxLoc, r_zipR, r_zipR0, r_zipR1, r_nxZip, r_orR, r_orRx, r_kK2, r_kK1T, r_kK1F, r_kK0, r_lcKa0, r_lcKa1, r_lcK, r_kF1N, r_kF1C, r_kF1B, r_kF1R, r_kF0, r_forFa0, r_forFa1, r_forF, r_errW, r_errO, r_errE, r_err, gGcd, r_kRaiseL, r_raiseL, r_orT2T, r_orT2F, r_kOrT, r_orT, gBits, gRev, gStr, gSl, Mir.cutD, HT.sIx, Rets, m_fits, b_fits, tof_n]) rfl rfl]) rfl rfl st, iso_pure (by simp [r_fnM, bR_ok, bR_exc, bR_bad, liftR_some, liftR_none, varR_some, r_var, r_c, r_kB2, r_kB1, r_bin, r_kUn, r_un, r_kC2, r_kC1, r_nil, r_cons, r_kTup, r_kLst, r_tup, r_lst, r_kCall, r_call, r_fn, r_fnl2, r_fnlR, r_fnl, r_kBl, r_mBl, r_truthR, r_kTruth, truth, r_mTruth, r_kIfT, r_kIfF, r_if, r_sif, r_cRet, r_and, r_or, r_kNot, r_not, r_kNotB, r_bnot, r_band, r_bor, r_true, r_kCh3T, r_kCh3F, r_kCh2, r_kCh1, r_chain, r_kOpt, r_pNone, r_pSome, r_kSl3, r_kSl2, r_kSl1, r_sl, r_kM2, r_kM1, r_m1, r_kOfL, r_kOfT, r_of, r_kRange1, r_kRange2, r_range, r_kZipL, r_kZipT, r_zip, r_kLc, r_lc, r_totR, r_mtot, r_setR, r_kLc2, r_kLc1T, r_kLc1F, r_kLc0, r_lcL0, r_lcL, r_kSeqN, r_kSeqR, r_kSeqB, r_kSeqC, r_seq, r_snil, r_brk, r_cont, r_asgR, r_kAsg, r_asg, r_kPar, r_par, r_kPar3, r_par3, r_kRet, r_ret, r_kExpr, r_expr, r_raise, r_kSet3, r_kSet2, r_kSet1, r_set, r_kFor, r_for, r_kForLN, r_kForLC, r_kForLB, r_kForLR, r_kForL0, r_forL0, r_forL, r_kEndN, r_kEndR, f1, f2, gIx, atI, ixN, gLen, gAbs, gInt, gTuple, gIsi, tyOf, isTy, gAdd, gMul, iBin_t, iMod_k, iDiv_k, iMul_k, iPow_k, iNeg, tAddO, lAdd, sAdd, lRep, tRep, gIsN, isNon, gIn, inF, eqF, gEqB, tp_non, tp_bl, tp_int, tp_str, tp_tup, tp_loc, allPy, PyData.eqv, PyData.eqvAll, Tg.set, Tgs.set, rBound, forR, forT, lcR, lcT, rangeD, wipeE, noLoc, noLocs, gAll, allBl, ieq, like_l, likeR, plains, plainD, likePs, likeP, r_nxR, r_nxLoc, r_zipR, r_zipR0, r_zipR1, r_nxZip, r_orR, r_orRx, r_kK2, r_kK1T, r_kK1F, r_kK0, r_lcKa0, r_lcKa1, r_lcK, r_kF1N, r_kF1C, r_kF1B, r_kF1R, r_kF0, r_forFa0, r_forFa1, r_forF, r_errW, r_errO, r_errE, r_err, gGcd, r_kRaiseL, r_raiseL, r_orT2T, r_orT2F, r_kOrT, r_orT, gBits, gRev, gStr, gSl, Mir.cutD, HT.sIx, Rets, m_law_is_unit, b_law_is_unit, so_non]) rfl rfl st⟩
theorem ag_i (d : Nm n m s) (x : Int) (st : Store) : Ag n (.int x) st :=
  ⟨false, iso_pure (by simp [r_fnM, bR_ok, bR_exc, bR_bad, liftR_some, liftR_none, varR_some, r_var, r_c, r_kB2, r_kB1, r_bin, r_kUn, r_un, r_kC2, r_kC1, r_nil, r_cons, r_kTup, r_kLst, r_tup, r_lst, r_kCall, r_call, r_fn, r_fnl2, r_fnlR, r_fnl, r_kBl, r_mBl, r_truthR, r_kTruth, truth, r_mTruth, r_kIfT, r_kIfF, r_if, r_sif, r_cRet, r_and, r_or, r_kNot, r_not, r_kNotB, r_bnot, r_band, r_bor, r_true, r_kCh3T, r_kCh3F, r_kCh2, r_kCh1, r_chain, r_kOpt, r_pNone, r_pSome, r_kSl3, r_kSl2, r_kSl1, r_sl, r_kM2, r_kM1, r_m1, r_kOfL, r_kOfT, r_of, r_kRange1, r_kRange2, r_range, r_kZipL, r_kZipT, r_zip, r_kLc, r_lc, r_totR, r_mtot, r_setR, r_kLc2, r_kLc1T, r_kLc1F, r_kLc0, r_lcL0, r_lcL, r_kSeqN, r_kSeqR, r_kSeqB, r_kSeqC, r_seq, r_snil, r_brk, r_cont, r_asgR, r_kAsg, r_asg, r_kPar, r_par, r_kPar3, r_par3, r_kRet, r_ret, r_kExpr, r_expr, r_raise, r_kSet3, r_kSet2, r_kSet1, r_set, r_kFor, r_for, r_kForLN, r_kForLC, r_kForLB, r_kForLR, r_kForL0, r_forL0, r_forL, r_kEndN, r_kEndR, f1, f2, gIx, atI, ixN, gLen, gAbs, gInt, gTuple, gIsi, tyOf, isTy, gAdd, gMul, iBin_t, iMod_k, iDiv_k, iMul_k, iPow_k, iNeg, tAddO, lAdd, sAdd, lRep, tRep, gIsN, isNon, gIn, inF, eqF, gEqB, tp_non, tp_bl, tp_int, tp_str, tp_tup, tp_loc, allPy, PyData.eqv, PyData.eqvAll, Tg.set, Tgs.set, rBound, forR, forT, lcR, lcT, rangeD, wipeE, noLoc, noLocs, gAll, allBl, ieq, like_l, likeR, plains, plainD, likePs, likeP, r_nxR, r_nxLoc, r_zipR, r_zipR0, r_zipR1, r_nxZip, r_orR, r_orRx, r_kK2, r_kK1T, r_kK1F, r_kK0, r_lcKa0, r_lcKa1, r_lcK, r_kF1N, r_kF1C, r_kF1B, r_kF1R, r_kF0, r_forFa0, r_forFa1, r_forF, r_errW, r_errO, r_errE, r_err, gGcd, r_kRaiseL, r_raiseL, r_orT2T, r_orT2F, r_kOrT, r_orT, gBits, gRev, gStr, gSl, Mir.cutD, HT.sIx, Rets, m_is_unit, b_is_unit, need_number_i d.nu, iso_pure (φ := m_fits) (ds := [.int n, .int x]) (v := .bl false) (by simp [r_fnM, bR_ok, bR_exc, bR_bad, liftR_some, liftR_none, varR_some, r_var, r_c, r_kB2, r_kB1, r_bin, r_kUn, r_un, r_kC2, r_kC1, r_nil, r_cons, r_kTup, r_kLst, r_tup, r_lst, r_kCall, r_call, r_fn, r_fnl2, r_fnlR, r_fnl, r_kBl, r_mBl, r_truthR, r_kTruth, truth, r_mTruth, r_kIfT, r_kIfF, r_if, r_sif, r_cRet, r_and, r_or, r_kNot, r_not, r_kNotB, r_bnot, r_band, r_bor, r_true, r_kCh3T, r_kCh3F, r_kCh2, r_kCh1, r_chain, r_kOpt, r_pNone, r_pSome, r_kSl3, r_kSl2, r_kSl1, r_sl, r_kM2, r_kM1, r_m1, r_kOfL, r_kOfT, r_of, r_kRange1, r_kRange2, r_range, r_kZipL, r_kZipT, r_zip, r_kLc, r_lc, r_totR, r_mtot, r_setR, r_kLc2, r_kLc1T, r_kLc1F, r_kLc0, r_lcL0, r_lcL, r_kSeqN, r_kSeqR, r_kSeqB, r_kSeqC, r_seq, r_snil, r_brk, r_cont, r_asgR, r_kAsg, r_asg, r_kPar, r_par, r_kPar3, r_par3, r_kRet, r_ret, r_kExpr, r_expr, r_raise, r_kSet3, r_kSet2, r_kSet1, r_set, r_kFor, r_for, r_kForLN, r_kForLC, r_kForLB, r_kForLR, r_kForL0, r_forL0, r_forL, r_kEndN, r_kEndR, f1, f2, gIx, atI, ixN, gLen, gAbs, gInt, gTuple, gIsi, tyOf, isTy, gAdd, gMul, iBin_t, iMod_k, iDiv_k, iMul_k, iPow_k, iNeg, tAddO, lAdd, sAdd, lRep, tRep, gIsN, isNon, gIn, inF, eqF, gEqB, tp_non, tp_bl, tp_int, tp_str, tp_tup, tp_loc, allPy, PyData.eqv, PyData.eqvAll, Tg.set, Tgs.set, rBound, forR, forT, lcR, lcT, rangeD, wipeE, noLoc, noLocs, gAll, allBl, ieq, like_l, likeR, plains, plainD, likePs, likeP, r_nxR, r_nxLoc, r_zipR, r_zipR0, r_zipR1, r_nxZip, r_orR, r_orRx, r_kK2, r_kK1T, r_kK1F, r_kK0, r_lcKa0, r_lcKa1, r_lcK, r_kF1N, r_kF1C, r_kF1B, r_kF1R, r_kF0, r_forFa0, r_forFa1, r_forF, r_errW, r_errO, r_errE, r_err, gGcd, r_kRaiseL, r_raiseL, r_orT2T, r_orT2F, r_kOrT, r_orT, gBits, gRev, gStr, gSl, Mir.cutD, HT.sIx, Rets, m_fits, b_fits, tof_z]) rfl rfl]) rfl rfl st, iso_pure (by simp [r_fnM, bR_ok, bR_exc, bR_bad, liftR_some, liftR_none, varR_some, r_var, r_c, r_kB2, r_kB1, r_bin, r_kUn, r_un, r_kC2, r_kC1, r_nil, r_cons, r_kTup, r_kLst, r_tup, r_lst, r_kCall, r_call, r_fn, r_fnl2, r_fnlR, r_fnl, r_kBl, r_mBl, r_truthR, r_kTruth, truth, r_mTruth, r_kIfT, r_kIfF, r_if, r_sif, r_cRet, r_and, r_or, r_kNot, r_not, r_kNotB, r_bnot, r_band, r_bor, r_true, r_kCh3T, r_kCh3F, r_kCh2, r_kCh1, r_chain, r_kOpt, r_pNone, r_pSome, r_kSl3, r_kSl2, r_kSl1, r_sl, r_kM2, r_kM1, r_m1, r_kOfL, r_kOfT, r_of, r_kRange1, r_kRange2, r_range, r_kZipL, r_kZipT, r_zip, r_kLc, r_lc, r_totR, r_mtot, r_setR, r_kLc2, r_kLc1T, r_kLc1F, r_kLc0, r_lcL0, r_lcL, r_kSeqN, r_kSeqR, r_kSeqB, r_kSeqC, r_seq, r_snil, r_brk, r_cont, r_asgR, r_kAsg, r_asg, r_kPar, r_par, r_kPar3, r_par3, r_kRet, r_ret, r_kExpr, r_expr, r_raise, r_kSet3, r_kSet2, r_kSet1, r_set, r_kFor, r_for, r_kForLN, r_kForLC, r_kForLB, r_kForLR, r_kForL0, r_forL0, r_forL, r_kEndN, r_kEndR, f1, f2, gIx, atI, ixN, gLen, gAbs, gInt, gTuple, gIsi, tyOf, isTy, gAdd, gMul, iBin_t, iMod_k, iDiv_k, iMul_k, iPow_k, iNeg, tAddO, lAdd, sAdd, lRep, tRep, gIsN, isNon, gIn, inF, eqF, gEqB, tp_non, tp_bl, tp_int, tp_str, tp_tup, tp_loc, allPy, PyData.eqv, PyData.eqvAll, Tg.set, Tgs.set, rBound, forR, forT, lcR, lcT, rangeD, wipeE, noLoc, noLocs, gAll, allBl, ieq, like_l, likeR, plains, plainD, likePs, likeP, r_nxR, r_nxLoc, r_zipR, r_zipR0, r_zipR1, r_nxZip, r_orR, r_orRx, r_kK2, r_kK1T, r_kK1F, r_kK0, r_lcKa0, r_lcKa1, r_lcK, r_kF1N, r_kF1C, r_kF1B, r_kF1R, r_kF0, r_forFa0, r_forFa1, r_forF, r_errW, r_errO, r_errE, r_err, gGcd, r_kRaiseL, r_raiseL, r_orT2T, r_orT2F, r_kOrT, r_orT, gBits, gRev, gStr, gSl, Mir.cutD, HT.sIx, Rets, m_law_is_unit, b_law_is_unit, so_int]) rfl rfl st⟩
/-- a call by a value and a list of the store that leaves it -/
theorem iso_dl {φ : List D → M D} {n : Nat} {d : D} {es : List D} {v : D} {st g : Store} (hn : st[n]? = some es) (hd : noLoc d = true) (he : noLocs es = true) (h : φ [d, .loc 0] [es] = .ok v (es :: g)) (hv : noLoc v = true) : iso φ [d, .loc n] st = .ok v st := by
  have q : isoArgs st [d, .loc n] [] [] = some ([d, .loc 0], [n], [es]) := by
    cases d <;> simp_all [isoArgs, noLoc]
  unfold iso
  rw [q]
  dsimp only
  rw [h]
  dsimp only
  rw [hv]
  have f : allFree [n].length (es :: g) = true := by simp [allFree, he]
  rw [f, if_pos (show (true && true) = true from rfl)]
  congr 1
  simp [wr, set_id hn]
theorem iso_lii {φ : List D → M D} {n : Nat} {x y : Int} {es : List D} {v : D} {st g : Store} (hn : st[n]? = some es) (he : noLocs es = true) (h : φ [.loc 0, .int x, .int y] [es] = .ok v (es :: g)) (hv : noLoc v = true) : iso φ [.loc n, .int x, .int y] st = .ok v st := by
  have q : isoArgs st [.loc n, .int x, .int y] [] [] = some ([.loc 0, .int x, .int y], [n], [es]) := by simp [isoArgs, hn, he, noLoc]
  unfold iso
  rw [q]
  dsimp only
  rw [h]
  dsimp only
  rw [hv]
  have f : allFree [n].length (es :: g) = true := by simp [allFree, he]
  rw [f, if_pos (show (true && true) = true from rfl)]
  congr 1
  simp [wr, set_id hn]
theorem ag_l (d : Nm n m s) {x y : Int} {k : Nat} {st : Store} (hk : st[k]? = some [.int x, .int y]) : Ag n (.loc k) st := by
  have t : ∀ (st : Store) (k : Nat), st[k]? = some [.int x, .int y] → iso m_is_tuple_of [.loc k, .int 2, .int 2] st = .ok (.bl false) st := fun st k hk =>
    iso_lii (g := []) hk rfl (by simp [r_fnM, bR_ok, bR_exc, bR_bad, liftR_some, liftR_none, varR_some, r_var, r_c, r_kB2, r_kB1, r_bin, r_kUn, r_un, r_kC2, r_kC1, r_nil, r_cons, r_kTup, r_kLst, r_tup, r_lst, r_kCall, r_call, r_fn, r_fnl2, r_fnlR, r_fnl, r_kBl, r_mBl, r_truthR, r_kTruth, truth, r_mTruth, r_kIfT, r_kIfF, r_if, r_sif, r_cRet, r_and, r_or, r_kNot, r_not, r_kNotB, r_bnot, r_band, r_bor, r_true, r_kCh3T, r_kCh3F, r_kCh2, r_kCh1, r_chain, r_kOpt, r_pNone, r_pSome, r_kSl3, r_kSl2, r_kSl1, r_sl, r_kM2, r_kM1, r_m1, r_kOfL, r_kOfT, r_of, r_kRange1, r_kRange2, r_range, r_kZipL, r_kZipT, r_zip, r_kLc, r_lc, r_totR, r_mtot, r_setR, r_kLc2, r_kLc1T, r_kLc1F, r_kLc0, r_lcL0, r_lcL, r_kSeqN, r_kSeqR, r_kSeqB, r_kSeqC, r_seq, r_snil, r_brk, r_cont, r_asgR, r_kAsg, r_asg, r_kPar, r_par, r_kPar3, r_par3, r_kRet, r_ret, r_kExpr, r_expr, r_raise, r_kSet3, r_kSet2, r_kSet1, r_set, r_kFor, r_for, r_kForLN, r_kForLC, r_kForLB, r_kForLR, r_kForL0, r_forL0, r_forL, r_kEndN, r_kEndR, f1, f2, gIx, atI, ixN, gLen, gAbs, gInt, gTuple, gIsi, tyOf, isTy, gAdd, gMul, iBin_t, iMod_k, iDiv_k, iMul_k, iPow_k, iNeg, tAddO, lAdd, sAdd, lRep, tRep, gIsN, isNon, gIn, inF, eqF, gEqB, tp_non, tp_bl, tp_int, tp_str, tp_tup, tp_loc, allPy, PyData.eqv, PyData.eqvAll, Tg.set, Tgs.set, rBound, forR, forT, lcR, lcT, rangeD, wipeE, noLoc, noLocs, gAll, allBl, ieq, like_l, likeR, plains, plainD, likePs, likeP, r_nxR, r_nxLoc, r_zipR, r_zipR0, r_zipR1, r_nxZip, r_orR, r_orRx, r_kK2, r_kK1T, r_kK1F, r_kK0, r_lcKa0, r_lcKa1, r_lcK, r_kF1N, r_kF1C, r_kF1B, r_kF1R, r_kF0, r_forFa0, r_forFa1, r_forF, r_errW, r_errO, r_errE, r_err, gGcd, r_kRaiseL, r_raiseL, r_orT2T, r_orT2F, r_kOrT, r_orT, gBits, gRev, gStr, gSl, Mir.cutD, HT.sIx, m_is_tuple_of, b_is_tuple_of]) rfl
  have f : ∀ (st : Store) (k : Nat), st[k]? = some [.int x, .int y] → iso m_fits [.int n, .loc k] st = .ok (.bl false) st := fun st k hk =>
    iso_dl (g := []) hk rfl rfl (by simp [r_fnM, bR_ok, bR_exc, bR_bad, liftR_some, liftR_none, varR_some, r_var, r_c, r_kB2, r_kB1, r_bin, r_kUn, r_un, r_kC2, r_kC1, r_nil, r_cons, r_kTup, r_kLst, r_tup, r_lst, r_kCall, r_call, r_fn, r_fnl2, r_fnlR, r_fnl, r_kBl, r_mBl, r_truthR, r_kTruth, truth, r_mTruth, r_kIfT, r_kIfF, r_if, r_sif, r_cRet, r_and, r_or, r_kNot, r_not, r_kNotB, r_bnot, r_band, r_bor, r_true, r_kCh3T, r_kCh3F, r_kCh2, r_kCh1, r_chain, r_kOpt, r_pNone, r_pSome, r_kSl3, r_kSl2, r_kSl1, r_sl, r_kM2, r_kM1, r_m1, r_kOfL, r_kOfT, r_of, r_kRange1, r_kRange2, r_range, r_kZipL, r_kZipT, r_zip, r_kLc, r_lc, r_totR, r_mtot, r_setR, r_kLc2, r_kLc1T, r_kLc1F, r_kLc0, r_lcL0, r_lcL, r_kSeqN, r_kSeqR, r_kSeqB, r_kSeqC, r_seq, r_snil, r_brk, r_cont, r_asgR, r_kAsg, r_asg, r_kPar, r_par, r_kPar3, r_par3, r_kRet, r_ret, r_kExpr, r_expr, r_raise, r_kSet3, r_kSet2, r_kSet1, r_set, r_kFor, r_for, r_kForLN, r_kForLC, r_kForLB, r_kForLR, r_kForL0, r_forL0, r_forL, r_kEndN, r_kEndR, f1, f2, gIx, atI, ixN, gLen, gAbs, gInt, gTuple, gIsi, tyOf, isTy, gAdd, gMul, iBin_t, iMod_k, iDiv_k, iMul_k, iPow_k, iNeg, tAddO, lAdd, sAdd, lRep, tRep, gIsN, isNon, gIn, inF, eqF, gEqB, tp_non, tp_bl, tp_int, tp_str, tp_tup, tp_loc, allPy, PyData.eqv, PyData.eqvAll, Tg.set, Tgs.set, rBound, forR, forT, lcR, lcT, rangeD, wipeE, noLoc, noLocs, gAll, allBl, ieq, like_l, likeR, plains, plainD, likePs, likeP, r_nxR, r_nxLoc, r_zipR, r_zipR0, r_zipR1, r_nxZip, r_orR, r_orRx, r_kK2, r_kK1T, r_kK1F, r_kK0, r_lcKa0, r_lcKa1, r_lcK, r_kF1N, r_kF1C, r_kF1B, r_kF1R, r_kF0, r_forFa0, r_forFa1, r_forF, r_errW, r_errO, r_errE, r_err, gGcd, r_kRaiseL, r_raiseL, r_orT2T, r_orT2F, r_kOrT, r_orT, gBits, gRev, gStr, gSl, Mir.cutD, HT.sIx, m_fits, b_fits, t]) rfl
  refine ⟨false, iso_dl (g := []) hk rfl rfl (by simp [r_fnM, bR_ok, bR_exc, bR_bad, liftR_some, liftR_none, varR_some, r_var, r_c, r_kB2, r_kB1, r_bin, r_kUn, r_un, r_kC2, r_kC1, r_nil, r_cons, r_kTup, r_kLst, r_tup, r_lst, r_kCall, r_call, r_fn, r_fnl2, r_fnlR, r_fnl, r_kBl, r_mBl, r_truthR, r_kTruth, truth, r_mTruth, r_kIfT, r_kIfF, r_if, r_sif, r_cRet, r_and, r_or, r_kNot, r_not, r_kNotB, r_bnot, r_band, r_bor, r_true, r_kCh3T, r_kCh3F, r_kCh2, r_kCh1, r_chain, r_kOpt, r_pNone, r_pSome, r_kSl3, r_kSl2, r_kSl1, r_sl, r_kM2, r_kM1, r_m1, r_kOfL, r_kOfT, r_of, r_kRange1, r_kRange2, r_range, r_kZipL, r_kZipT, r_zip, r_kLc, r_lc, r_totR, r_mtot, r_setR, r_kLc2, r_kLc1T, r_kLc1F, r_kLc0, r_lcL0, r_lcL, r_kSeqN, r_kSeqR, r_kSeqB, r_kSeqC, r_seq, r_snil, r_brk, r_cont, r_asgR, r_kAsg, r_asg, r_kPar, r_par, r_kPar3, r_par3, r_kRet, r_ret, r_kExpr, r_expr, r_raise, r_kSet3, r_kSet2, r_kSet1, r_set, r_kFor, r_for, r_kForLN, r_kForLC, r_kForLB, r_kForLR, r_kForL0, r_forL0, r_forL, r_kEndN, r_kEndR, f1, f2, gIx, atI, ixN, gLen, gAbs, gInt, gTuple, gIsi, tyOf, isTy, gAdd, gMul, iBin_t, iMod_k, iDiv_k, iMul_k, iPow_k, iNeg, tAddO, lAdd, sAdd, lRep, tRep, gIsN, isNon, gIn, inF, eqF, gEqB, tp_non, tp_bl, tp_int, tp_str, tp_tup, tp_loc, allPy, PyData.eqv, PyData.eqvAll, Tg.set, Tgs.set, rBound, forR, forT, lcR, lcT, rangeD, wipeE, noLoc, noLocs, gAll, allBl, ieq, like_l, likeR, plains, plainD, likePs, likeP, r_nxR, r_nxLoc, r_zipR, r_zipR0, r_zipR1, r_nxZip, r_orR, r_orRx, r_kK2, r_kK1T, r_kK1F, r_kK0, r_lcKa0, r_lcKa1, r_lcK, r_kF1N, r_kF1C, r_kF1B, r_kF1R, r_kF0, r_forFa0, r_forFa1, r_forF, r_errW, r_errO, r_errE, r_err, gGcd, r_kRaiseL, r_raiseL, r_orT2T, r_orT2F, r_kOrT, r_orT, gBits, gRev, gStr, gSl, Mir.cutD, HT.sIx, m_is_unit, b_is_unit, need_number_i d.nu, f]) rfl, iso_dl (g := []) hk rfl rfl (by simp [r_fnM, bR_ok, bR_exc, bR_bad, liftR_some, liftR_none, varR_some, r_var, r_c, r_kB2, r_kB1, r_bin, r_kUn, r_un, r_kC2, r_kC1, r_nil, r_cons, r_kTup, r_kLst, r_tup, r_lst, r_kCall, r_call, r_fn, r_fnl2, r_fnlR, r_fnl, r_kBl, r_mBl, r_truthR, r_kTruth, truth, r_mTruth, r_kIfT, r_kIfF, r_if, r_sif, r_cRet, r_and, r_or, r_kNot, r_not, r_kNotB, r_bnot, r_band, r_bor, r_true, r_kCh3T, r_kCh3F, r_kCh2, r_kCh1, r_chain, r_kOpt, r_pNone, r_pSome, r_kSl3, r_kSl2, r_kSl1, r_sl, r_kM2, r_kM1, r_m1, r_kOfL, r_kOfT, r_of, r_kRange1, r_kRange2, r_range, r_kZipL, r_kZipT, r_zip, r_kLc, r_lc, r_totR, r_mtot, r_setR, r_kLc2, r_kLc1T, r_kLc1F, r_kLc0, r_lcL0, r_lcL, r_kSeqN, r_kSeqR, r_kSeqB, r_kSeqC, r_seq, r_snil, r_brk, r_cont, r_asgR, r_kAsg, r_asg, r_kPar, r_par, r_kPar3, r_par3, r_kRet, r_ret, r_kExpr, r_expr, r_raise, r_kSet3, r_kSet2, r_kSet1, r_set, r_kFor, r_for, r_kForLN, r_kForLC, r_kForLB, r_kForLR, r_kForL0, r_forL0, r_forL, r_kEndN, r_kEndR, f1, f2, gIx, atI, ixN, gLen, gAbs, gInt, gTuple, gIsi, tyOf, isTy, gAdd, gMul, iBin_t, iMod_k, iDiv_k, iMul_k, iPow_k, iNeg, tAddO, lAdd, sAdd, lRep, tRep, gIsN, isNon, gIn, inF, eqF, gEqB, tp_non, tp_bl, tp_int, tp_str, tp_tup, tp_loc, allPy, PyData.eqv, PyData.eqvAll, Tg.set, Tgs.set, rBound, forR, forT, lcR, lcT, rangeD, wipeE, noLoc, noLocs, gAll, allBl, ieq, like_l, likeR, plains, plainD, likePs, likeP, r_nxR, r_nxLoc, r_zipR, r_zipR0, r_zipR1, r_nxZip, r_orR, r_orRx, r_kK2, r_kK1T, r_kK1F, r_kK0, r_lcKa0, r_lcKa1, r_lcK, r_kF1N, r_kF1C, r_kF1B, r_kF1R, r_kF0, r_forFa0, r_forFa1, r_forF, r_errW, r_errO, r_errE, r_err, gGcd, r_kRaiseL, r_raiseL, r_orT2T, r_orT2F, r_kOrT, r_orT, gBits, gRev, gStr, gSl, Mir.cutD, HT.sIx, m_law_is_unit, b_law_is_unit, so_loc]) rfl⟩
abbrev nearC : EM Bool := bNot fun env => mTruth ((eFn 2 (m_law_like 8) (aCons (eFn 2 m_is_unit (aCons (eVar 1) (aCons (eVar 8) aNil))) (aCons (eFn 2 m_law_is_unit (aCons (eVar 1) (aCons (eVar 8) aNil))) aNil))) env)
theorem ag_run {d : D} {st : Store} (h : Ag n d st) (o0 o2 o3 o4 o5 o6 o7 : Option D) : nearC [o0, some (.int n), o2, o3, o4, o5, o6, o7, some d] st = .ok false st := by
  obtain ⟨b, h1, h2⟩ := h
  have e := like_p (d := .bl b) (e := .bl b) rfl rfl
  simp [r_fnM, bR_ok, bR_exc, bR_bad, liftR_some, liftR_none, varR_some, r_var, r_c, r_kB2, r_kB1, r_bin, r_kUn, r_un, r_kC2, r_kC1, r_nil, r_cons, r_kTup, r_kLst, r_tup, r_lst, r_kCall, r_call, r_fn, r_fnl2, r_fnlR, r_fnl, r_kBl, r_mBl, r_truthR, r_kTruth, truth, r_mTruth, r_kIfT, r_kIfF, r_if, r_sif, r_cRet, r_and, r_or, r_kNot, r_not, r_kNotB, r_bnot, r_band, r_bor, r_true, r_kCh3T, r_kCh3F, r_kCh2, r_kCh1, r_chain, r_kOpt, r_pNone, r_pSome, r_kSl3, r_kSl2, r_kSl1, r_sl, r_kM2, r_kM1, r_m1, r_kOfL, r_kOfT, r_of, r_kRange1, r_kRange2, r_range, r_kZipL, r_kZipT, r_zip, r_kLc, r_lc, r_totR, r_mtot, r_setR, r_kLc2, r_kLc1T, r_kLc1F, r_kLc0, r_lcL0, r_lcL, r_kSeqN, r_kSeqR, r_kSeqB, r_kSeqC, r_seq, r_snil, r_brk, r_cont, r_asgR, r_kAsg, r_asg, r_kPar, r_par, r_kPar3, r_par3, r_kRet, r_ret, r_kExpr, r_expr, r_raise, r_kSet3, r_kSet2, r_kSet1, r_set, r_kFor, r_for, r_kForLN, r_kForLC, r_kForLB, r_kForLR, r_kForL0, r_forL0, r_forL, r_kEndN, r_kEndR, f1, f2, gIx, atI, ixN, gLen, gAbs, gInt, gTuple, gIsi, tyOf, isTy, gAdd, gMul, iBin_t, iMod_k, iDiv_k, iMul_k, iPow_k, iNeg, tAddO, lAdd, sAdd, lRep, tRep, gIsN, isNon, gIn, inF, eqF, gEqB, tp_non, tp_bl, tp_int, tp_str, tp_tup, tp_loc, allPy, PyData.eqv, PyData.eqvAll, Tg.set, Tgs.set, rBound, forR, forT, lcR, lcT, rangeD, wipeE, noLoc, noLocs, gAll, allBl, ieq, like_l, likeR, plains, plainD, likePs, likeP, r_nxR, r_nxLoc, r_zipR, r_zipR0, r_zipR1, r_nxZip, r_orR, r_orRx, r_kK2, r_kK1T, r_kK1F, r_kK0, r_lcKa0, r_lcKa1, r_lcK, r_kF1N, r_kF1C, r_kF1B, r_kF1R, r_kF0, r_forFa0, r_forFa1, r_forF, r_errW, r_errO, r_errE, r_err, gGcd, r_kRaiseL, r_raiseL, r_orT2T, r_orT2F, r_kOrT, r_orT, gBits, gRev, gStr, gSl, Mir.cutD, HT.sIx, nearC, h1, h2, e]
def near1 (t u : Int) : List D := [p2 t u, p2 t (-u), p2 (-t) u, p2 u t, p2 (t + 1) u, p2 t (u + 1), p2 (2 * t) u]
def near2 (t u : Int) : List D := [.tup [.int t], .tup [.int t, .int u, .int 0], .tup [.int t, .non], .tup [.str (toString t), .int u]]
def near3 (t u v w : Int) : List D := [.non, .int t, p2 (t + v - 3) (u + w - 3)]
theorem near_x (d : Nm n m s) (g : EB 200 a) (c : Cup) (x y : List D) : ∃ v w c', 0 ≤ v ∧ v < 7 ∧ 0 ≤ w ∧ w < 7 ∧ iso m_law_near [.loc 0, dE s a] [cs c, x, y] = .ok (.loc 6) [cs c', x, y, [.int (a.t s), .int a.u], near1 (a.t s) a.u ++ .loc 3 :: near2 (a.t s) a.u, near3 (a.t s) a.u v w, near1 (a.t s) a.u ++ .loc 3 :: near2 (a.t s) a.u ++ near3 (a.t s) a.u v w] := by
  obtain ⟨v, c1, v0, v1, e1⟩ := roll_x c 7 (by decide) (by decide)
  obtain ⟨w, c2, w0, w1, e2⟩ := roll_x c1 7 (by decide) (by decide)
  refine ⟨v, w, c2, v0, v1, w0, w1, ?_⟩
  have btt := g.t d
  have lg : (a.t s).natAbs.log2 < 1920 := by
    by_cases h0 : (a.t s).natAbs = 0
    · rw [h0]; decide
    · exact (Nat.log2_lt h0).mpr (Nat.lt_of_lt_of_le (PySem.intBits_le_iff.mp btt) (Nat.pow_le_pow_right (by decide) (by decide)))
  have k1 : cMul 2 (a.t s) = true := cMul_of (m := 2) (by decide) btt (by decide)
  have q : isoArgs [cs c, x, y] [.loc 0, dE s a] [] [] = some ([.loc 0, dE s a], [0], [cs c]) := by simp [isoArgs, noLoc, noLocs]
  have r1 : ∃ s1, m_law_near [.loc 0, dE s a] [cs c] = .ok (.loc 4) s1 := by
    refine ⟨[cs c2, [.int (a.t s), .int a.u], near1 (a.t s) a.u ++ .loc 1 :: near2 (a.t s) a.u, near3 (a.t s) a.u v w, near1 (a.t s) a.u ++ .loc 1 :: near2 (a.t s) a.u ++ near3 (a.t s) a.u v w], ?_⟩
    simp [r_fnM, bR_ok, bR_exc, bR_bad, liftR_some, liftR_none, varR_some, r_var, r_c, r_kB2, r_kB1, r_bin, r_kUn, r_un, r_kC2, r_kC1, r_nil, r_cons, r_kTup, r_kLst, r_tup, r_lst, r_kCall, r_call, r_fn, r_fnl2, r_fnlR, r_fnl, r_kBl, r_mBl, r_truthR, r_kTruth, truth, r_mTruth, r_kIfT, r_kIfF, r_if, r_sif, r_cRet, r_and, r_or, r_kNot, r_not, r_kNotB, r_bnot, r_band, r_bor, r_true, r_kCh3T, r_kCh3F, r_kCh2, r_kCh1, r_chain, r_kOpt, r_pNone, r_pSome, r_kSl3, r_kSl2, r_kSl1, r_sl, r_kM2, r_kM1, r_m1, r_kOfL, r_kOfT, r_of, r_kRange1, r_kRange2, r_range, r_kZipL, r_kZipT, r_zip, r_kLc, r_lc, r_totR, r_mtot, r_setR, r_kLc2, r_kLc1T, r_kLc1F, r_kLc0, r_lcL0, r_lcL, r_kSeqN, r_kSeqR, r_kSeqB, r_kSeqC, r_seq, r_snil, r_brk, r_cont, r_asgR, r_kAsg, r_asg, r_kPar, r_par, r_kPar3, r_par3, r_kRet, r_ret, r_kExpr, r_expr, r_raise, r_kSet3, r_kSet2, r_kSet1, r_set, r_kFor, r_for, r_kForLN, r_kForLC, r_kForLB, r_kForLR, r_kForL0, r_forL0, r_forL, r_kEndN, r_kEndR, f1, f2, gIx, atI, ixN, gLen, gAbs, gInt, gTuple, gIsi, tyOf, isTy, gAdd, gMul, iBin_t, iMod_k, iDiv_k, iMul_k, iPow_k, iNeg, tAddO, lAdd, sAdd, lRep, tRep, gIsN, isNon, gIn, inF, eqF, gEqB, tp_non, tp_bl, tp_int, tp_str, tp_tup, tp_loc, allPy, PyData.eqv, PyData.eqvAll, Tg.set, Tgs.set, rBound, forR, forT, lcR, lcT, rangeD, wipeE, noLoc, noLocs, gAll, allBl, ieq, like_l, likeR, plains, plainD, likePs, likeP, r_nxR, r_nxLoc, r_zipR, r_zipR0, r_zipR1, r_nxZip, r_orR, r_orRx, r_kK2, r_kK1T, r_kK1F, r_kK0, r_lcKa0, r_lcKa1, r_lcK, r_kF1N, r_kF1C, r_kF1B, r_kF1R, r_kF0, r_forFa0, r_forFa1, r_forF, r_errW, r_errO, r_errE, r_err, gGcd, r_kRaiseL, r_raiseL, r_orT2T, r_orT2F, r_kOrT, r_orT, gBits, gRev, gStr, gSl, Mir.cutD, HT.sIx, m_law_near, b_law_near, e1, e2, lg, k1, near1, near2, near3]
  obtain ⟨s1, r1⟩ := r1
  rw [iso_loc q r1]
  simp [r_fnM, bR_ok, bR_exc, bR_bad, liftR_some, liftR_none, varR_some, r_var, r_c, r_kB2, r_kB1, r_bin, r_kUn, r_un, r_kC2, r_kC1, r_nil, r_cons, r_kTup, r_kLst, r_tup, r_lst, r_kCall, r_call, r_fn, r_fnl2, r_fnlR, r_fnl, r_kBl, r_mBl, r_truthR, r_kTruth, truth, r_mTruth, r_kIfT, r_kIfF, r_if, r_sif, r_cRet, r_and, r_or, r_kNot, r_not, r_kNotB, r_bnot, r_band, r_bor, r_true, r_kCh3T, r_kCh3F, r_kCh2, r_kCh1, r_chain, r_kOpt, r_pNone, r_pSome, r_kSl3, r_kSl2, r_kSl1, r_sl, r_kM2, r_kM1, r_m1, r_kOfL, r_kOfT, r_of, r_kRange1, r_kRange2, r_range, r_kZipL, r_kZipT, r_zip, r_kLc, r_lc, r_totR, r_mtot, r_setR, r_kLc2, r_kLc1T, r_kLc1F, r_kLc0, r_lcL0, r_lcL, r_kSeqN, r_kSeqR, r_kSeqB, r_kSeqC, r_seq, r_snil, r_brk, r_cont, r_asgR, r_kAsg, r_asg, r_kPar, r_par, r_kPar3, r_par3, r_kRet, r_ret, r_kExpr, r_expr, r_raise, r_kSet3, r_kSet2, r_kSet1, r_set, r_kFor, r_for, r_kForLN, r_kForLC, r_kForLB, r_kForLR, r_kForL0, r_forL0, r_forL, r_kEndN, r_kEndR, f1, f2, gIx, atI, ixN, gLen, gAbs, gInt, gTuple, gIsi, tyOf, isTy, gAdd, gMul, iBin_t, iMod_k, iDiv_k, iMul_k, iPow_k, iNeg, tAddO, lAdd, sAdd, lRep, tRep, gIsN, isNon, gIn, inF, eqF, gEqB, tp_non, tp_bl, tp_int, tp_str, tp_tup, tp_loc, allPy, PyData.eqv, PyData.eqvAll, Tg.set, Tgs.set, rBound, forR, forT, lcR, lcT, rangeD, wipeE, noLoc, noLocs, gAll, allBl, ieq, like_l, likeR, plains, plainD, likePs, likeP, r_nxR, r_nxLoc, r_zipR, r_zipR0, r_zipR1, r_nxZip, r_orR, r_orRx, r_kK2, r_kK1T, r_kK1F, r_kK0, r_lcKa0, r_lcKa1, r_lcK, r_kF1N, r_kF1C, r_kF1B, r_kF1R, r_kF0, r_forFa0, r_forFa1, r_forF, r_errW, r_errO, r_errE, r_err, gGcd, r_kRaiseL, r_raiseL, r_orT2T, r_orT2F, r_kOrT, r_orT, gBits, gRev, gStr, gSl, Mir.cutD, HT.sIx, m_law_near, b_law_near, e1, e2, lg, k1, near1, near2, near3]
theorem near_none (d : Nm n m s) (g : EB 200 a) {v w : Int} (v0 : 0 ≤ v) (v1 : v < 7) (w0 : 0 ≤ w) (w1 : w < 7) (c' : Cup) (x y L1 L2 : List D) (o0 o2 o3 o4 o5 o6 o7 o8 : Option D) :
    lcN (nxLoc 6) (.nm 8) nearC (eVar 8) [o0, some (.int n), o2, o3, o4, o5, o6, o7, o8] FUEL 0 [] [cs c', x, y, [.int (a.t s), .int a.u], L1, L2, near1 (a.t s) a.u ++ .loc 3 :: near2 (a.t s) a.u ++ near3 (a.t s) a.u v w] =
      .ok (.loc 7) [cs c', x, y, [.int (a.t s), .int a.u], L1, L2, near1 (a.t s) a.u ++ .loc 3 :: near2 (a.t s) a.u ++ near3 (a.t s) a.u v w, []] := by
  have btt : B 210 (a.t s) := Nat.le_trans (g.t d) (by decide)
  have bu : B 210 a.u := Nat.le_trans g.u (by decide)
  generalize a.t s = t at *
  generalize a.u = u at *
  have A : ∀ d ∈ near1 t u ++ .loc 3 :: near2 t u ++ near3 t u v w, Ag n d [cs c', x, y, [.int t, .int u], L1, L2, near1 t u ++ .loc 3 :: near2 t u ++ near3 t u v w] := by
    have b1 : B 1000 t := Nat.le_trans btt (by decide)
    have b2 : B 1000 u := Nat.le_trans bu (by decide)
    have b3 : B 1000 (t + 1) := Nat.le_trans (b_addm btt (n := 1) (by decide)) (by decide)
    have b4 : B 1000 (u + 1) := Nat.le_trans (b_addm bu (n := 1) (by decide)) (by decide)
    have b5 : B 1000 (2 * t) := Nat.le_trans (b_mul (m := 2) (by decide) btt) (by decide)
    have b6 : B 1000 (t + v - 3) := Nat.le_trans (b_subm (b_addm btt (n := 3) (bits_of (by omega))) (n := 2) (by decide)) (by decide)
    have b7 : B 1000 (u + w - 3) := Nat.le_trans (b_subm (b_addm bu (n := 3) (bits_of (by omega))) (n := 2) (by decide)) (by decide)
    generalize hL : near1 t u ++ .loc 3 :: near2 t u ++ near3 t u v w = L
    rw [← hL]
    simp only [near1, near2, near3, List.cons_append, List.nil_append, List.forall_mem_cons]
    exact ⟨ag_p d b1 b2 _, ag_p d b1 (b_neg b2) _, ag_p d (b_neg b1) b2 _, ag_p d b2 b1 _, ag_p d b3 b2 _, ag_p d b1 b4 _, ag_p d b5 b2 _, ag_l d rfl, ag_1 d _, ag_3 d _, ag_n d _, ag_s d _, ag_0 d _, ag_i d _ _, ag_p d b6 b7 _, fun _ h => absurd h (by simp)⟩
  have hlen : (near1 t u ++ .loc 3 :: near2 t u ++ near3 t u v w).length = 15 := rfl
  generalize near1 t u ++ .loc 3 :: near2 t u ++ near3 t u v w = L at *
  refine lcN_none (k := 15) (fun i hi => ?_) ?_ FUEL 0 [] (by decide) (by decide)
  · have hi2 : i < L.length := by omega
    refine ⟨L[i], [o0, some (.int n), o2, o3, o4, o5, o6, o7, some L[i]], ?_, rfl, ag_run (A _ (List.getElem_mem hi2)) ..⟩
    show some L[i]? = _
    rw [List.getElem?_eq_getElem hi2]
  · show some L[15]? = _
    rw [List.getElem?_eq_none (by omega)]
theorem is_free_i (d : Nm n m s) {f : Bool} (h : ∀ st, iso m_is_free_in [.int n] st = .ok (.bl f) st) (st : Store) : iso m_is_free [.int n] st = .ok (.bl f) st := iso_pure (by
  simp [r_fnM, bR_ok, bR_exc, bR_bad, liftR_some, liftR_none, varR_some, r_var, r_c, r_kB2, r_kB1, r_bin, r_kUn, r_un, r_kC2, r_kC1, r_nil, r_cons, r_kTup, r_kLst, r_tup, r_lst, r_kCall, r_call, r_fn, r_fnl2, r_fnlR, r_fnl, r_kBl, r_mBl, r_truthR, r_kTruth, truth, r_mTruth, r_kIfT, r_kIfF, r_if, r_sif, r_cRet, r_and, r_or, r_kNot, r_not, r_kNotB, r_bnot, r_band, r_bor, r_true, r_kCh3T, r_kCh3F, r_kCh2, r_kCh1, r_chain, r_kOpt, r_pNone, r_pSome, r_kSl3, r_kSl2, r_kSl1, r_sl, r_kM2, r_kM1, r_m1, r_kOfL, r_kOfT, r_of, r_kRange1, r_kRange2, r_range, r_kZipL, r_kZipT, r_zip, r_kLc, r_lc, r_totR, r_mtot, r_setR, r_kLc2, r_kLc1T, r_kLc1F, r_kLc0, r_lcL0, r_lcL, r_kSeqN, r_kSeqR, r_kSeqB, r_kSeqC, r_seq, r_snil, r_brk, r_cont, r_asgR, r_kAsg, r_asg, r_kPar, r_par, r_kPar3, r_par3, r_kRet, r_ret, r_kExpr, r_expr, r_raise, r_kSet3, r_kSet2, r_kSet1, r_set, r_kFor, r_for, r_kForLN, r_kForLC, r_kForLB, r_kForLR, r_kForL0, r_forL0, r_forL, r_kEndN, r_kEndR, f1, f2, gIx, atI, ixN, gLen, gAbs, gInt, gTuple, gIsi, tyOf, isTy, gAdd, gMul, iBin_t, iMod_k, iDiv_k, iMul_k, iPow_k, iNeg, tAddO, lAdd, sAdd, lRep, tRep, gIsN, isNon, gIn, inF, eqF, gEqB, tp_non, tp_bl, tp_int, tp_str, tp_tup, tp_loc, allPy, PyData.eqv, PyData.eqvAll, Tg.set, Tgs.set, rBound, forR, forT, lcR, lcT, rangeD, wipeE, noLoc, noLocs, gAll, allBl, ieq, like_l, likeR, plains, plainD, likePs, likeP, r_nxR, r_nxLoc, r_zipR, r_zipR0, r_zipR1, r_nxZip, r_orR, r_orRx, r_kK2, r_kK1T, r_kK1F, r_kK0, r_lcKa0, r_lcKa1, r_lcK, r_kF1N, r_kF1C, r_kF1B, r_kF1R, r_kF0, r_forFa0, r_forFa1, r_forF, r_errW, r_errO, r_errE, r_err, gGcd, r_kRaiseL, r_raiseL, r_orT2T, r_orT2F, r_kOrT, r_orT, gBits, gRev, gStr, gSl, Mir.cutD, HT.sIx, Rets, m_is_free, b_is_free, need_number_i d.nu, h]) rfl rfl st
end K21
/-! K21U: the part of one number (own work). -/
namespace K21
open PySem _root_.L2 Mir PyProof.Rows
variable {n m s : Int} {a b : El}
theorem above_i {t u : Int} (st : Store) : iso m_is_above [p2 t u] st = .ok (.bl (decide (0 < t) && decide (0 < u))) st := iso_pure (by
  by_cases h : 0 < t
  · simp [r_fnM, bR_ok, bR_exc, bR_bad, liftR_some, liftR_none, varR_some, r_var, r_c, r_kB2, r_kB1, r_bin, r_kUn, r_un, r_kC2, r_kC1, r_nil, r_cons, r_kTup, r_kLst, r_tup, r_lst, r_kCall, r_call, r_fn, r_fnl2, r_fnlR, r_fnl, r_kBl, r_mBl, r_truthR, r_kTruth, truth, r_mTruth, r_kIfT, r_kIfF, r_if, r_sif, r_cRet, r_and, r_or, r_kNot, r_not, r_kNotB, r_bnot, r_band, r_bor, r_true, r_kCh3T, r_kCh3F, r_kCh2, r_kCh1, r_chain, r_kOpt, r_pNone, r_pSome, r_kSl3, r_kSl2, r_kSl1, r_sl, r_kM2, r_kM1, r_m1, r_kOfL, r_kOfT, r_of, r_kRange1, r_kRange2, r_range, r_kZipL, r_kZipT, r_zip, r_kLc, r_lc, r_totR, r_mtot, r_setR, r_kLc2, r_kLc1T, r_kLc1F, r_kLc0, r_lcL0, r_lcL, r_kSeqN, r_kSeqR, r_kSeqB, r_kSeqC, r_seq, r_snil, r_brk, r_cont, r_asgR, r_kAsg, r_asg, r_kPar, r_par, r_kPar3, r_par3, r_kRet, r_ret, r_kExpr, r_expr, r_raise, r_kSet3, r_kSet2, r_kSet1, r_set, r_kFor, r_for, r_kForLN, r_kForLC, r_kForLB, r_kForLR, r_kForL0, r_forL0, r_forL, r_kEndN, r_kEndR, f1, f2, gIx, atI, ixN, gLen, gAbs, gInt, gTuple, gIsi, tyOf, isTy, gAdd, gMul, iBin_t, iMod_k, iDiv_k, iMul_k, iPow_k, iNeg, tAddO, lAdd, sAdd, lRep, tRep, gIsN, isNon, gIn, inF, eqF, gEqB, tp_non, tp_bl, tp_int, tp_str, tp_tup, tp_loc, allPy, PyData.eqv, PyData.eqvAll, Tg.set, Tgs.set, rBound, forR, forT, lcR, lcT, rangeD, wipeE, noLoc, noLocs, gAll, allBl, ieq, like_l, likeR, plains, plainD, likePs, likeP, r_nxR, r_nxLoc, r_zipR, r_zipR0, r_zipR1, r_nxZip, r_orR, r_orRx, r_kK2, r_kK1T, r_kK1F, r_kK0, r_lcKa0, r_lcKa1, r_lcK, r_kF1N, r_kF1C, r_kF1B, r_kF1R, r_kF0, r_forFa0, r_forFa1, r_forF, r_errW, r_errO, r_errE, r_err, gGcd, r_kRaiseL, r_raiseL, r_orT2T, r_orT2F, r_kOrT, r_orT, gBits, gRev, gStr, gSl, Mir.cutD, HT.sIx, Rets, m_is_above, b_is_above, h]
  · simp [r_fnM, bR_ok, bR_exc, bR_bad, liftR_some, liftR_none, varR_some, r_var, r_c, r_kB2, r_kB1, r_bin, r_kUn, r_un, r_kC2, r_kC1, r_nil, r_cons, r_kTup, r_kLst, r_tup, r_lst, r_kCall, r_call, r_fn, r_fnl2, r_fnlR, r_fnl, r_kBl, r_mBl, r_truthR, r_kTruth, truth, r_mTruth, r_kIfT, r_kIfF, r_if, r_sif, r_cRet, r_and, r_or, r_kNot, r_not, r_kNotB, r_bnot, r_band, r_bor, r_true, r_kCh3T, r_kCh3F, r_kCh2, r_kCh1, r_chain, r_kOpt, r_pNone, r_pSome, r_kSl3, r_kSl2, r_kSl1, r_sl, r_kM2, r_kM1, r_m1, r_kOfL, r_kOfT, r_of, r_kRange1, r_kRange2, r_range, r_kZipL, r_kZipT, r_zip, r_kLc, r_lc, r_totR, r_mtot, r_setR, r_kLc2, r_kLc1T, r_kLc1F, r_kLc0, r_lcL0, r_lcL, r_kSeqN, r_kSeqR, r_kSeqB, r_kSeqC, r_seq, r_snil, r_brk, r_cont, r_asgR, r_kAsg, r_asg, r_kPar, r_par, r_kPar3, r_par3, r_kRet, r_ret, r_kExpr, r_expr, r_raise, r_kSet3, r_kSet2, r_kSet1, r_set, r_kFor, r_for, r_kForLN, r_kForLC, r_kForLB, r_kForLR, r_kForL0, r_forL0, r_forL, r_kEndN, r_kEndR, f1, f2, gIx, atI, ixN, gLen, gAbs, gInt, gTuple, gIsi, tyOf, isTy, gAdd, gMul, iBin_t, iMod_k, iDiv_k, iMul_k, iPow_k, iNeg, tAddO, lAdd, sAdd, lRep, tRep, gIsN, isNon, gIn, inF, eqF, gEqB, tp_non, tp_bl, tp_int, tp_str, tp_tup, tp_loc, allPy, PyData.eqv, PyData.eqvAll, Tg.set, Tgs.set, rBound, forR, forT, lcR, lcT, rangeD, wipeE, noLoc, noLocs, gAll, allBl, ieq, like_l, likeR, plains, plainD, likePs, likeP, r_nxR, r_nxLoc, r_zipR, r_zipR0, r_zipR1, r_nxZip, r_orR, r_orRx, r_kK2, r_kK1T, r_kK1F, r_kK0, r_lcKa0, r_lcKa1, r_lcK, r_kF1N, r_kF1C, r_kF1B, r_kF1R, r_kF0, r_forFa0, r_forFa1, r_forF, r_errW, r_errO, r_errE, r_err, gGcd, r_kRaiseL, r_raiseL, r_orT2T, r_orT2F, r_kOrT, r_orT, gBits, gRev, gStr, gSl, Mir.cutD, HT.sIx, Rets, m_is_above, b_is_above, h]) rfl rfl st
theorem above_oneE (d : Nm n m s) (h : Un m s a) (g : EB 200 a) (hf : ∀ st, iso m_is_free_in [.int n] st = .ok (.bl true) st) (st : Store) : iso m_is_above_one [.int n, dE s a] st = .ok (.bl (decide (0 < a.t s) && decide (0 < a.u))) st := iso_pure (by
  have e1 := need_unitE d h (g.le (by decide))
  have e2 : ∀ st, iso m_need_free [.int n] st = .ok .non st := iso_pure (by simp [r_fnM, bR_ok, bR_exc, bR_bad, liftR_some, liftR_none, varR_some, r_var, r_c, r_kB2, r_kB1, r_bin, r_kUn, r_un, r_kC2, r_kC1, r_nil, r_cons, r_kTup, r_kLst, r_tup, r_lst, r_kCall, r_call, r_fn, r_fnl2, r_fnlR, r_fnl, r_kBl, r_mBl, r_truthR, r_kTruth, truth, r_mTruth, r_kIfT, r_kIfF, r_if, r_sif, r_cRet, r_and, r_or, r_kNot, r_not, r_kNotB, r_bnot, r_band, r_bor, r_true, r_kCh3T, r_kCh3F, r_kCh2, r_kCh1, r_chain, r_kOpt, r_pNone, r_pSome, r_kSl3, r_kSl2, r_kSl1, r_sl, r_kM2, r_kM1, r_m1, r_kOfL, r_kOfT, r_of, r_kRange1, r_kRange2, r_range, r_kZipL, r_kZipT, r_zip, r_kLc, r_lc, r_totR, r_mtot, r_setR, r_kLc2, r_kLc1T, r_kLc1F, r_kLc0, r_lcL0, r_lcL, r_kSeqN, r_kSeqR, r_kSeqB, r_kSeqC, r_seq, r_snil, r_brk, r_cont, r_asgR, r_kAsg, r_asg, r_kPar, r_par, r_kPar3, r_par3, r_kRet, r_ret, r_kExpr, r_expr, r_raise, r_kSet3, r_kSet2, r_kSet1, r_set, r_kFor, r_for, r_kForLN, r_kForLC, r_kForLB, r_kForLR, r_kForL0, r_forL0, r_forL, r_kEndN, r_kEndR, f1, f2, gIx, atI, ixN, gLen, gAbs, gInt, gTuple, gIsi, tyOf, isTy, gAdd, gMul, iBin_t, iMod_k, iDiv_k, iMul_k, iPow_k, iNeg, tAddO, lAdd, sAdd, lRep, tRep, gIsN, isNon, gIn, inF, eqF, gEqB, tp_non, tp_bl, tp_int, tp_str, tp_tup, tp_loc, allPy, PyData.eqv, PyData.eqvAll, Tg.set, Tgs.set, rBound, forR, forT, lcR, lcT, rangeD, wipeE, noLoc, noLocs, gAll, allBl, ieq, like_l, likeR, plains, plainD, likePs, likeP, r_nxR, r_nxLoc, r_zipR, r_zipR0, r_zipR1, r_nxZip, r_orR, r_orRx, r_kK2, r_kK1T, r_kK1F, r_kK0, r_lcKa0, r_lcKa1, r_lcK, r_kF1N, r_kF1C, r_kF1B, r_kF1R, r_kF0, r_forFa0, r_forFa1, r_forF, r_errW, r_errO, r_errE, r_err, gGcd, r_kRaiseL, r_raiseL, r_orT2T, r_orT2F, r_kOrT, r_orT, gBits, gRev, gStr, gSl, Mir.cutD, HT.sIx, Rets, m_need_free, b_need_free, hf]) rfl rfl
  simp [r_fnM, bR_ok, bR_exc, bR_bad, liftR_some, liftR_none, varR_some, r_var, r_c, r_kB2, r_kB1, r_bin, r_kUn, r_un, r_kC2, r_kC1, r_nil, r_cons, r_kTup, r_kLst, r_tup, r_lst, r_kCall, r_call, r_fn, r_fnl2, r_fnlR, r_fnl, r_kBl, r_mBl, r_truthR, r_kTruth, truth, r_mTruth, r_kIfT, r_kIfF, r_if, r_sif, r_cRet, r_and, r_or, r_kNot, r_not, r_kNotB, r_bnot, r_band, r_bor, r_true, r_kCh3T, r_kCh3F, r_kCh2, r_kCh1, r_chain, r_kOpt, r_pNone, r_pSome, r_kSl3, r_kSl2, r_kSl1, r_sl, r_kM2, r_kM1, r_m1, r_kOfL, r_kOfT, r_of, r_kRange1, r_kRange2, r_range, r_kZipL, r_kZipT, r_zip, r_kLc, r_lc, r_totR, r_mtot, r_setR, r_kLc2, r_kLc1T, r_kLc1F, r_kLc0, r_lcL0, r_lcL, r_kSeqN, r_kSeqR, r_kSeqB, r_kSeqC, r_seq, r_snil, r_brk, r_cont, r_asgR, r_kAsg, r_asg, r_kPar, r_par, r_kPar3, r_par3, r_kRet, r_ret, r_kExpr, r_expr, r_raise, r_kSet3, r_kSet2, r_kSet1, r_set, r_kFor, r_for, r_kForLN, r_kForLC, r_kForLB, r_kForLR, r_kForL0, r_forL0, r_forL, r_kEndN, r_kEndR, f1, f2, gIx, atI, ixN, gLen, gAbs, gInt, gTuple, gIsi, tyOf, isTy, gAdd, gMul, iBin_t, iMod_k, iDiv_k, iMul_k, iPow_k, iNeg, tAddO, lAdd, sAdd, lRep, tRep, gIsN, isNon, gIn, inF, eqF, gEqB, tp_non, tp_bl, tp_int, tp_str, tp_tup, tp_loc, allPy, PyData.eqv, PyData.eqvAll, Tg.set, Tgs.set, rBound, forR, forT, lcR, lcT, rangeD, wipeE, noLoc, noLocs, gAll, allBl, ieq, like_l, likeR, plains, plainD, likePs, likeP, r_nxR, r_nxLoc, r_zipR, r_zipR0, r_zipR1, r_nxZip, r_orR, r_orRx, r_kK2, r_kK1T, r_kK1F, r_kK0, r_lcKa0, r_lcKa1, r_lcK, r_kF1N, r_kF1C, r_kF1B, r_kF1R, r_kF0, r_forFa0, r_forFa1, r_forF, r_errW, r_errO, r_errE, r_err, gGcd, r_kRaiseL, r_raiseL, r_orT2T, r_orT2F, r_kOrT, r_orT, gBits, gRev, gStr, gSl, Mir.cutD, HT.sIx, Rets, m_is_above_one, b_is_above_one, e1, e2, above_i]) rfl rfl st
theorem above_oneX (d : Nm n m s) (h : Un m s a) (g : EB 200 a) (hf : ∀ st, iso m_is_free_in [.int n] st = .ok (.bl false) st) (st : Store) : iso m_is_above_one [.int n, dE s a] st = .exc 3 st := iso_raise (by
  have e1 := need_unitE d h (g.le (by decide))
  have e2 : ∀ st, iso m_need_free [.int n] st = .exc 3 st := iso_raise (by simp [r_fnM, bR_ok, bR_exc, bR_bad, liftR_some, liftR_none, varR_some, r_var, r_c, r_kB2, r_kB1, r_bin, r_kUn, r_un, r_kC2, r_kC1, r_nil, r_cons, r_kTup, r_kLst, r_tup, r_lst, r_kCall, r_call, r_fn, r_fnl2, r_fnlR, r_fnl, r_kBl, r_mBl, r_truthR, r_kTruth, truth, r_mTruth, r_kIfT, r_kIfF, r_if, r_sif, r_cRet, r_and, r_or, r_kNot, r_not, r_kNotB, r_bnot, r_band, r_bor, r_true, r_kCh3T, r_kCh3F, r_kCh2, r_kCh1, r_chain, r_kOpt, r_pNone, r_pSome, r_kSl3, r_kSl2, r_kSl1, r_sl, r_kM2, r_kM1, r_m1, r_kOfL, r_kOfT, r_of, r_kRange1, r_kRange2, r_range, r_kZipL, r_kZipT, r_zip, r_kLc, r_lc, r_totR, r_mtot, r_setR, r_kLc2, r_kLc1T, r_kLc1F, r_kLc0, r_lcL0, r_lcL, r_kSeqN, r_kSeqR, r_kSeqB, r_kSeqC, r_seq, r_snil, r_brk, r_cont, r_asgR, r_kAsg, r_asg, r_kPar, r_par, r_kPar3, r_par3, r_kRet, r_ret, r_kExpr, r_expr, r_raise, r_kSet3, r_kSet2, r_kSet1, r_set, r_kFor, r_for, r_kForLN, r_kForLC, r_kForLB, r_kForLR, r_kForL0, r_forL0, r_forL, r_kEndN, r_kEndR, f1, f2, gIx, atI, ixN, gLen, gAbs, gInt, gTuple, gIsi, tyOf, isTy, gAdd, gMul, iBin_t, iMod_k, iDiv_k, iMul_k, iPow_k, iNeg, tAddO, lAdd, sAdd, lRep, tRep, gIsN, isNon, gIn, inF, eqF, gEqB, tp_non, tp_bl, tp_int, tp_str, tp_tup, tp_loc, allPy, PyData.eqv, PyData.eqvAll, Tg.set, Tgs.set, rBound, forR, forT, lcR, lcT, rangeD, wipeE, noLoc, noLocs, gAll, allBl, ieq, like_l, likeR, plains, plainD, likePs, likeP, r_nxR, r_nxLoc, r_zipR, r_zipR0, r_zipR1, r_nxZip, r_orR, r_orRx, r_kK2, r_kK1T, r_kK1F, r_kK0, r_lcKa0, r_lcKa1, r_lcK, r_kF1N, r_kF1C, r_kF1B, r_kF1R, r_kF0, r_forFa0, r_forFa1, r_forF, r_errW, r_errO, r_errE, r_err, gGcd, r_kRaiseL, r_raiseL, r_orT2T, r_orT2F, r_kOrT, r_orT, gBits, gRev, gStr, gSl, Mir.cutD, HT.sIx, Mir.Raises, m_need_free, b_need_free, hf, r_raise]) rfl
  simp [r_fnM, bR_ok, bR_exc, bR_bad, liftR_some, liftR_none, varR_some, r_var, r_c, r_kB2, r_kB1, r_bin, r_kUn, r_un, r_kC2, r_kC1, r_nil, r_cons, r_kTup, r_kLst, r_tup, r_lst, r_kCall, r_call, r_fn, r_fnl2, r_fnlR, r_fnl, r_kBl, r_mBl, r_truthR, r_kTruth, truth, r_mTruth, r_kIfT, r_kIfF, r_if, r_sif, r_cRet, r_and, r_or, r_kNot, r_not, r_kNotB, r_bnot, r_band, r_bor, r_true, r_kCh3T, r_kCh3F, r_kCh2, r_kCh1, r_chain, r_kOpt, r_pNone, r_pSome, r_kSl3, r_kSl2, r_kSl1, r_sl, r_kM2, r_kM1, r_m1, r_kOfL, r_kOfT, r_of, r_kRange1, r_kRange2, r_range, r_kZipL, r_kZipT, r_zip, r_kLc, r_lc, r_totR, r_mtot, r_setR, r_kLc2, r_kLc1T, r_kLc1F, r_kLc0, r_lcL0, r_lcL, r_kSeqN, r_kSeqR, r_kSeqB, r_kSeqC, r_seq, r_snil, r_brk, r_cont, r_asgR, r_kAsg, r_asg, r_kPar, r_par, r_kPar3, r_par3, r_kRet, r_ret, r_kExpr, r_expr, r_raise, r_kSet3, r_kSet2, r_kSet1, r_set, r_kFor, r_for, r_kForLN, r_kForLC, r_kForLB, r_kForLR, r_kForL0, r_forL0, r_forL, r_kEndN, r_kEndR, f1, f2, gIx, atI, ixN, gLen, gAbs, gInt, gTuple, gIsi, tyOf, isTy, gAdd, gMul, iBin_t, iMod_k, iDiv_k, iMul_k, iPow_k, iNeg, tAddO, lAdd, sAdd, lRep, tRep, gIsN, isNon, gIn, inF, eqF, gEqB, tp_non, tp_bl, tp_int, tp_str, tp_tup, tp_loc, allPy, PyData.eqv, PyData.eqvAll, Tg.set, Tgs.set, rBound, forR, forT, lcR, lcT, rangeD, wipeE, noLoc, noLocs, gAll, allBl, ieq, like_l, likeR, plains, plainD, likePs, likeP, r_nxR, r_nxLoc, r_zipR, r_zipR0, r_zipR1, r_nxZip, r_orR, r_orRx, r_kK2, r_kK1T, r_kK1F, r_kK0, r_lcKa0, r_lcKa1, r_lcK, r_kF1N, r_kF1C, r_kF1B, r_kF1R, r_kF0, r_forFa0, r_forFa1, r_forF, r_errW, r_errO, r_errE, r_err, gGcd, r_kRaiseL, r_raiseL, r_orT2T, r_orT2F, r_kOrT, r_orT, gBits, gRev, gStr, gSl, Mir.cutD, HT.sIx, Mir.Raises, m_is_above_one, b_is_above_one, e1, e2]) rfl st
theorem one_t : El.t s El.one = 2 := by simp [El.t, El.one]
theorem one_u : El.one.u = 0 := rfl
theorem right_x {n : Int} (N : NumOk n) (c : Cup) : ∃ c', RetsC (m_law_right [.loc 0, .int n] [cs c]) (.bl true) c' := by
  obtain ⟨m, s, f, d, hf, hl, draw⟩ := N
  obtain ⟨a, c1, ua, ga, e1⟩ := draw c
  obtain ⟨b, c2, ub, gb, e2⟩ := draw c1
  obtain ⟨v, w, c3, v0, v1, w0, w1, e3⟩ := near_x d ga c2 [.bl true, .bl f] [.bl true, .bl f]
  obtain ⟨z, c4, z0, z1, e4⟩ := roll_x c3 17 (by decide) (by decide)
  have e5 := near_none d ga v0 v1 w0 w1 c3 [.bl true, .bl f] [.bl true, .bl f] (near1 (a.t s) a.u ++ .loc 3 :: near2 (a.t s) a.u) (near3 (a.t s) a.u v w) (some (.loc 0)) (some (dE s a)) (some (dE s b)) none none none none none
  generalize hL : near1 (a.t s) a.u ++ .loc 3 :: near2 (a.t s) a.u ++ near3 (a.t s) a.u v w = L at e3 e5
  generalize near1 (a.t s) a.u ++ .loc 3 :: near2 (a.t s) a.u = L1 at e3 e5
  generalize near3 (a.t s) a.u v w = L2 at e3 e5
  have um := Un.mul d ua ub
  have gm := EB.mul ga gb d
  have ui := Un.inv d ua
  have gi := ga.inv d
  have f1 := is_free_i d hf
  have f2 := disc_i d.nu
  have f3 := law_timesE d (ga.le (by decide)) (gb.le (by decide))
  have f4 := unit_productE d ua ub (ga.le (by decide)) (gb.le (by decide))
  have f5 := unit_normE d ua (ga.le (by decide))
  have f6 := unit_normE d um (gm.le (by decide))
  rw [N_mul d.ss] at f6
  have f7 := unit_oppE d ua (ga.le (by decide))
  have f8 := law_normE d ua (ga.le (by decide))
  have f9 := law_normE d ub (gb.le (by decide))
  have g1 := unit_backE d ua (ga.le (by decide))
  have g2 := unit_powerE d ua ga (k := z - 8) (by omega) (by omega)
  have g3 := unit_productE d ui ua (gi.le (by decide)) (ga.le (by decide))
  rw [inv_mul d.ss a ua] at g3
  have g4 := law_powerE d ua ga (k := -1) (by omega) (by omega)
  rw [exl_m1] at g4
  have g5 := law_powerE d ua ga (k := z - 8) (by omega) (by omega)
  have nb : ∀ a : El, Un m s a → B 2 (a.N m s) := fun a h => by
    rcases h with h | h <;> rw [h] <;> decide
  have k1 := cMul_of (nb a ua) (nb b ub) (by decide)
  have n1 : a.neg.t s = -a.t s := neg_t a
  have n2 : a.neg.u = -a.u := rfl
  refine ⟨c4, ?_⟩
  cases f with
  | true =>
    have g6 := above_oneE d ua ga hf
    have lp := fun b => like_p (d := .bl b) (e := .bl b) rfl rfl
    by_cases h0 : 0 < a.t s
    · simp [r_fnM, bR_ok, bR_exc, bR_bad, liftR_some, liftR_none, varR_some, r_var, r_c, r_kB2, r_kB1, r_bin, r_kUn, r_un, r_kC2, r_kC1, r_nil, r_cons, r_kTup, r_kLst, r_tup, r_lst, r_kCall, r_call, r_fn, r_fnl2, r_fnlR, r_fnl, r_kBl, r_mBl, r_truthR, r_kTruth, truth, r_mTruth, r_kIfT, r_kIfF, r_if, r_sif, r_cRet, r_and, r_or, r_kNot, r_not, r_kNotB, r_bnot, r_band, r_bor, r_true, r_kCh3T, r_kCh3F, r_kCh2, r_kCh1, r_chain, r_kOpt, r_pNone, r_pSome, r_kSl3, r_kSl2, r_kSl1, r_sl, r_kM2, r_kM1, r_m1, r_kOfL, r_kOfT, r_of, r_kRange1, r_kRange2, r_range, r_kZipL, r_kZipT, r_zip, r_kLc, r_lc, r_totR, r_mtot, r_setR, r_kLc2, r_kLc1T, r_kLc1F, r_kLc0, r_lcL0, r_lcL, r_kSeqN, r_kSeqR, r_kSeqB, r_kSeqC, r_seq, r_snil, r_brk, r_cont, r_asgR, r_kAsg, r_asg, r_kPar, r_par, r_kPar3, r_par3, r_kRet, r_ret, r_kExpr, r_expr, r_raise, r_kSet3, r_kSet2, r_kSet1, r_set, r_kFor, r_for, r_kForLN, r_kForLC, r_kForLB, r_kForLR, r_kForL0, r_forL0, r_forL, r_kEndN, r_kEndR, f1, f2, gIx, atI, ixN, gLen, gAbs, gInt, gTuple, gIsi, tyOf, isTy, gAdd, gMul, iBin_t, iMod_k, iDiv_k, iMul_k, iPow_k, iNeg, tAddO, lAdd, sAdd, lRep, tRep, gIsN, isNon, gIn, inF, eqF, gEqB, tp_non, tp_bl, tp_int, tp_str, tp_tup, tp_loc, allPy, PyData.eqv, PyData.eqvAll, Tg.set, Tgs.set, rBound, forR, forT, lcR, lcT, rangeD, wipeE, noLoc, noLocs, gAll, allBl, ieq, like_l, likeR, plains, plainD, likePs, likeP, r_nxR, r_nxLoc, r_zipR, r_zipR0, r_zipR1, r_nxZip, r_orR, r_orRx, r_kK2, r_kK1T, r_kK1F, r_kK0, r_lcKa0, r_lcKa1, r_lcK, r_kF1N, r_kF1C, r_kF1B, r_kF1R, r_kF0, r_forFa0, r_forFa1, r_forF, r_errW, r_errO, r_errE, r_err, gGcd, r_kRaiseL, r_raiseL, r_orT2T, r_orT2F, r_kOrT, r_orT, gBits, gRev, gStr, gSl, Mir.cutD, HT.sIx, RetsC, m_law_right, b_law_right, e1, e2, e3, e4, e5, f1, f2, f3, f4, f5, f6, f7, f8, f9, g1, g2, g3, g4, g5, k1, n1, n2, one_t, one_u, hl, g6, h0, likeP, lp]
    · simp [r_fnM, bR_ok, bR_exc, bR_bad, liftR_some, liftR_none, varR_some, r_var, r_c, r_kB2, r_kB1, r_bin, r_kUn, r_un, r_kC2, r_kC1, r_nil, r_cons, r_kTup, r_kLst, r_tup, r_lst, r_kCall, r_call, r_fn, r_fnl2, r_fnlR, r_fnl, r_kBl, r_mBl, r_truthR, r_kTruth, truth, r_mTruth, r_kIfT, r_kIfF, r_if, r_sif, r_cRet, r_and, r_or, r_kNot, r_not, r_kNotB, r_bnot, r_band, r_bor, r_true, r_kCh3T, r_kCh3F, r_kCh2, r_kCh1, r_chain, r_kOpt, r_pNone, r_pSome, r_kSl3, r_kSl2, r_kSl1, r_sl, r_kM2, r_kM1, r_m1, r_kOfL, r_kOfT, r_of, r_kRange1, r_kRange2, r_range, r_kZipL, r_kZipT, r_zip, r_kLc, r_lc, r_totR, r_mtot, r_setR, r_kLc2, r_kLc1T, r_kLc1F, r_kLc0, r_lcL0, r_lcL, r_kSeqN, r_kSeqR, r_kSeqB, r_kSeqC, r_seq, r_snil, r_brk, r_cont, r_asgR, r_kAsg, r_asg, r_kPar, r_par, r_kPar3, r_par3, r_kRet, r_ret, r_kExpr, r_expr, r_raise, r_kSet3, r_kSet2, r_kSet1, r_set, r_kFor, r_for, r_kForLN, r_kForLC, r_kForLB, r_kForLR, r_kForL0, r_forL0, r_forL, r_kEndN, r_kEndR, f1, f2, gIx, atI, ixN, gLen, gAbs, gInt, gTuple, gIsi, tyOf, isTy, gAdd, gMul, iBin_t, iMod_k, iDiv_k, iMul_k, iPow_k, iNeg, tAddO, lAdd, sAdd, lRep, tRep, gIsN, isNon, gIn, inF, eqF, gEqB, tp_non, tp_bl, tp_int, tp_str, tp_tup, tp_loc, allPy, PyData.eqv, PyData.eqvAll, Tg.set, Tgs.set, rBound, forR, forT, lcR, lcT, rangeD, wipeE, noLoc, noLocs, gAll, allBl, ieq, like_l, likeR, plains, plainD, likePs, likeP, r_nxR, r_nxLoc, r_zipR, r_zipR0, r_zipR1, r_nxZip, r_orR, r_orRx, r_kK2, r_kK1T, r_kK1F, r_kK0, r_lcKa0, r_lcKa1, r_lcK, r_kF1N, r_kF1C, r_kF1B, r_kF1R, r_kF0, r_forFa0, r_forFa1, r_forF, r_errW, r_errO, r_errE, r_err, gGcd, r_kRaiseL, r_raiseL, r_orT2T, r_orT2F, r_kOrT, r_orT, gBits, gRev, gStr, gSl, Mir.cutD, HT.sIx, RetsC, m_law_right, b_law_right, e1, e2, e3, e4, e5, f1, f2, f3, f4, f5, f6, f7, f8, f9, g1, g2, g3, g4, g5, k1, n1, n2, one_t, one_u, hl, g6, h0, likeP, lp]
  | false =>
    have g6 := above_oneX d ua ga hf
    have w3 : werr 3 = some ⟨#[110, 111, 119]⟩ := by kernel_rfl
    simp [r_fnM, bR_ok, bR_exc, bR_bad, liftR_some, liftR_none, varR_some, r_var, r_c, r_kB2, r_kB1, r_bin, r_kUn, r_un, r_kC2, r_kC1, r_nil, r_cons, r_kTup, r_kLst, r_tup, r_lst, r_kCall, r_call, r_fn, r_fnl2, r_fnlR, r_fnl, r_kBl, r_mBl, r_truthR, r_kTruth, truth, r_mTruth, r_kIfT, r_kIfF, r_if, r_sif, r_cRet, r_and, r_or, r_kNot, r_not, r_kNotB, r_bnot, r_band, r_bor, r_true, r_kCh3T, r_kCh3F, r_kCh2, r_kCh1, r_chain, r_kOpt, r_pNone, r_pSome, r_kSl3, r_kSl2, r_kSl1, r_sl, r_kM2, r_kM1, r_m1, r_kOfL, r_kOfT, r_of, r_kRange1, r_kRange2, r_range, r_kZipL, r_kZipT, r_zip, r_kLc, r_lc, r_totR, r_mtot, r_setR, r_kLc2, r_kLc1T, r_kLc1F, r_kLc0, r_lcL0, r_lcL, r_kSeqN, r_kSeqR, r_kSeqB, r_kSeqC, r_seq, r_snil, r_brk, r_cont, r_asgR, r_kAsg, r_asg, r_kPar, r_par, r_kPar3, r_par3, r_kRet, r_ret, r_kExpr, r_expr, r_raise, r_kSet3, r_kSet2, r_kSet1, r_set, r_kFor, r_for, r_kForLN, r_kForLC, r_kForLB, r_kForLR, r_kForL0, r_forL0, r_forL, r_kEndN, r_kEndR, f1, f2, gIx, atI, ixN, gLen, gAbs, gInt, gTuple, gIsi, tyOf, isTy, gAdd, gMul, iBin_t, iMod_k, iDiv_k, iMul_k, iPow_k, iNeg, tAddO, lAdd, sAdd, lRep, tRep, gIsN, isNon, gIn, inF, eqF, gEqB, tp_non, tp_bl, tp_int, tp_str, tp_tup, tp_loc, allPy, PyData.eqv, PyData.eqvAll, Tg.set, Tgs.set, rBound, forR, forT, lcR, lcT, rangeD, wipeE, noLoc, noLocs, gAll, allBl, ieq, like_l, likeR, plains, plainD, likePs, likeP, r_nxR, r_nxLoc, r_zipR, r_zipR0, r_zipR1, r_nxZip, r_orR, r_orRx, r_kK2, r_kK1T, r_kK1F, r_kK0, r_lcKa0, r_lcKa1, r_lcK, r_kF1N, r_kF1C, r_kF1B, r_kF1R, r_kF0, r_forFa0, r_forFa1, r_forF, r_errW, r_errO, r_errE, r_err, gGcd, r_kRaiseL, r_raiseL, r_orT2T, r_orT2F, r_kOrT, r_orT, gBits, gRev, gStr, gSl, Mir.cutD, HT.sIx, RetsC, m_law_right, b_law_right, e1, e2, e3, e4, e5, f1, f2, f3, f4, f5, f6, f7, f8, f9, g1, g2, g3, g4, g5, k1, n1, n2, one_t, one_u, hl, g6, likeP, w3]
end K21
/-! K21V: digits, errors, and the law (own work). -/
namespace K21
open PySem _root_.L2 Mir PyProof.Rows
theorem errors_i (st : Store) : iso m_law_errors_right [] st = .ok (.bl true) st := of_run (by kernel_rfl) rfl rfl st
def FAR : Int := 100000000000000000000000000000000000000000000000000000000000000000000000000000000000000000000000000000000000000000000000000000000000000000000000000000000000000000000000000000000000000000000000000000000000000000000000000000000000000000000000000000000000000000000000000000000000000000000000000000000000000000000000000000000000000000000000000000000000000000000000000000000000000000000000000000000000000000000000000000000000000000000000000000000000000000000000000000000000000000000000000000000000000000000000000000000000000000000000000000000000000000000000000000000000000000000000000000000000000000000000000000000000000000000000000000000000000000000000000000000000000000000000000000000000000000000000000000000000000000000000000000000000000000000000000000000000000000000000000000000000000000000000000000000000000000000000000000000000000000000000000000000000000000000000000000000000000000000000000000000000000000000000000000000000000000000000000000000000000000000000000000000000000000000000000000000000000000000000000000000000000000000000000000000000000000000000000000000000000000000000000000000000000000000000000000000000000000000000000000000000000000000000000000000000000000000000000000000000000000000000000000000000000000000000000000000000000000000000000000000000000000000000000000000000000000000000000000000000000000000000000000000000000000000000000000000000000000000000000000000000000000000000000000000000000000000000000000000000000000000000000000000000000000000000000000000000000000000000000000000000000000000000000000000000000000000000000000000000000000000000000000000000000000000000000000000000000000000000000000000000000000000000000000000000000000000000000000000000000000000000000000000000000000000000000000000000000000000000000000000000000000000000000000000000000000000000000000000000000000000000000000000000000000000000000000000000000000000000000000000000000000000000000000000000000000000000000000000000000000000000000000000000000000000000000000000000000000000000000000000000000000000000000000000
def FAR3 : Int := 1000000000000000000000000000000000000000000000000000000000000000000000000000000000000000000000000000000000000000000000000000000000000000000000000000000000000000000000000000000000000000000000000000000000000000000000000000000000000000000000000000000000000000000000000000000000000000000000000000000000000000000000000000000000000000000000000000000000000000000000000000000000000000000000000000000000000000000000000000000000000000000000000000000000000000000000000000000000000000000000000000000000000000000000000000000000000000000000000000000000000000000000000000000000000000000000000000000000000000000000000000000000000000000000000000000000000000000000000000000000000000000000000000000000000000000000000000000000000000000000000000000000000000000000000000000000000000000000000000000000000000000000000000000000000000000000000000000000000000000000000000000000000000000000000000000000000000000000000000000000000000000000000000000000000000000000000000000000000000000000000000000000000000000000000000000000000000000000000000000000000000000000000000000000000000000000000000000000000000000000000000000000000000000000000000000000000000000000000000000000000000000000000000000000000000000000000000000000000000000000000000000000000000000000000000000000000000000000000000000000000000000000000000000000000000000000000000000000000000000000000000000000000000000000000000000000000000000000000000000000000000000000000000000000000000000000000000000000000000000000000000000000000000000000000000000000000000000000000000000000000000000000000000000000000000000000000000000000000000000000000000000000000000000000000000000000000000000000000000000000000000000000000000000000000000000000000000000000000000000000000000000000000000000000000000000000000000000000000000000000000000000000000000000000000000000000000000000000000000000000000000000000000000000000000000000000000000000000000000000000000000000000000000000000000000000000000000000000000000000000000000000000000000000000000000000000000000000000000000000000000000000000000000000000000000000000000000000000000000000000000000000000000000000000000000000000000000000000000000000000000000000000000000000000000000000000000000000000000000000000000000000000000000000000000000000000000000000000000000000000000000000000000000000000000000000000000000000000000000000000000000000000000000000000000000000000000000000000000000000000000000000000000000000000000000000000000000000000000000000000000000000000000000000000000000000000000000000000000000000000000000000000000000000000000000000000000000000000000000000000000000000000000000000000000000000000000000000000000000000000000000000000000000000000000000000000000000000000000000000000000000000000000000000000000000000000000000000000000000000000000000000000000000000000000000000000000000000000000000000000000000000000000000000000000000000000000000000000000000000000000000000000000000000000000000000000000000000000000000000000000000000000000000000000000000000000000000000000000000000000000000000000000000000000000000000000000000000000000000000000000
theorem far_eq : (10 : Int) ^ 2000 = FAR := by
  have h : ((10 ^ 2000 : Nat) : Int) = FAR := by kernel_rfl
  rw [← h]; norm_cast
theorem far3_eq : (10 : Int) ^ 3000 = FAR3 := by
  have h : ((10 ^ 3000 : Nat) : Int) = FAR3 := by kernel_rfl
  rw [← h]; norm_cast
theorem ten2 (st : Store) : iso m_law_ten [.int 2000] st = .ok (.int FAR) st := by rw [ten_i 2000 2000 rfl (by decide) (by decide) st, far_eq]
theorem ten3 (st : Store) : iso m_law_ten [.int 3000] st = .ok (.int FAR3) st := by rw [ten_i 3000 3000 rfl (by decide) (by decide) st, far3_eq]
abbrev up (n : Int) (d : D) (k : Int) : R D := m_unit_power [.int n, d, .int k] []
def tOf (d : D) : Int := match d with
  | .tup [.int t, .int _] => t
  | _ => 0
def uOf (d : D) : Int := match d with
  | .tup [.int _, .int u] => u
  | _ => 0
def LT : Int := 39241166759310827283430089749708769435748264116790103669879832142396860844600311843920629061432251850281058338578503346154981946598498485376891070289262781788929778698647166126945528852815403934856950450889213485550777495615871693716067693583800476639525401148586779062552670252627505099489246050083172985934687543691460445739373677173221765838849615951587041353441876074054347731916720955251096273766150150591063874234226367487148492714576513570051770016665308383020752045130725269680915089422498485309842611091153321600145962369936849598015497437309447899056465816958444402242045568080921828991922092981667470980756511888046643273730337773241130957396367058807292094986289160156495762643457082059429325614701386712622550112441432573278450999147473031474084449257781527458163078036454041624785654824993296421652791302694340703541670570102538304920924553345509626549603378074967726448163284572931295790005180102876381876828697457273088187463312068248415405201713607647445673768327474175269201474663043450172561803550248187459789670202270398928440636338332676069363399365259131831036767580575595989021275480389308420898225432177413726608934463764653786100785843778032193739446292139069219963976798162711003971776966679459579008184032246618090949475575220609190781064658170538539594705093251080410341794353508788765693650921999780303681507535220144134982484943583392360968500202941145530603412710635262561647115653934208943377647978989019736868962496611304572211178232592649825450934757258042428578382738368870937057037962671622086348723229474368898768213382363299493483843667045248823673729764163858017069337284986118939165103344320404036593393763960331365855957159543908651586608756589964756300690320729525217533118691514798826426257390980115850511352999427810228318331612089368242606458218677495708934182929892237690744516756624427939938660993121287712490577283995494553661465405232684015875559944776258304099175739318805872635037480952044693195565867121451916950821256100687273383126871494297958847
def LU : Int := 17549183278044827659846728422651354371666926266293739190827448145510728236777704591159607606059631726158518768130990145841242364550562826504078630408225553541070446701448983950798256356326691744158078944124446197981803833391529757916420879547630237464398878540346349698745161032433440809242840788364592037137275161400221335640551240488878263013567255395659025776492665576642748542594870453879213799836063229490289000672653195302318057993216649576362821879339988748281252723196587703140310206031778444492204232438296104719571109143171192156276647218038650166758022341593430612321872016868937347318554821106264362788604784556548577397158196340295068405750831500823596967807206242504603082437645984055665340468207401872010720510311871115845173264282579472750077703702565416530680272367962209568460093149891566869601677328339774229758906845948243727976483851337184089080497890319996439187214070941397950852387175762015633263868512987610735966802262416655251656257096411304594409743977160628149902635448277553252074866596307983060021378217567344380849926399106645693145154699436363231350117158213331445542466578081757009455443467501838054955173537613181918533268878076678847831361915846359661586783433395714252049629318671615579524657567595309930950455164643063145604815837902906620318508523708883622374953377418366737259193134447181647323151454647879176084020082638347284519401375117844264845624628381759457601222938828594712616970232473618874956290734789733750853666841882351996622126298093939345033022519465648346881907580212497390215991991085545514702991732677483199763084295747692331081018033517386902438999149504712886234422711268966943618722140852956619780240718657732746873209222506139540349118397260501357664030326581303124890555498904173451866699474910487850514210548557431065675173085778491173362201685304248732876805486505563696645258391628257792985876320791632326052383001736926142755483524987543341742054986411103591622879686635185244388896499636279790376588636272077985654847758527903760891
def QT : Int := 102734708334078310074761955681191540082789711840919503481888368577372111858844729243779962607297457090817884428195230383835578831274154794325533181454458056536070784801593209067413934170039835262680623036644935723280675826902631935365153739244776308620285298073746042840691907960024859672340971046036239571745219219037744007710438616982028306292192562416528126471394478052688392954362257567574678910239383299612318313032972539486517884054906394295984709723347934445234259875687557162372148149213193839195274497732470244199146716412833254787714864201060797265479754579421243134167748394293726111784270192238162113442646729223441408403490997510599367450471629340269930561997449346496251350059300583228307339592570584748960626444441826649530609659427658229086320933143085832513945297974586586358328715112218861806483380274890946629709772970024416777322596458361224662525649792912442687640280104212891820815975709559353655974914328654936472198200624144010752248445311439732654535012434112833278558800615259058389029871816142238839737950847323959344785770505265628336907985796479605824930444266396722597388079665788355154985946817020715727301335539679935475484350960858745410187574227824502983912923780733352136081738746698228317323919967358201963800351274438571650183636582013074360188328949148829671450074973809099991688459219117624573830139939449914142683777621970956752751253742206328958019180636907292486473730827972800196608897549667576792694170581891291235450934453594854729731717881121912005450130406217427272790325894538676605063064821925417134909799405238657239633476239937104063213139730039254281701503801240960624333711794653023413936895998072888598234537535960194844562936191150295985323831474245541220459753853725456051865774833730607405433778186417934968763023789527630028097620042462471496806778608098978368308788851200551151521137468752576051200556727972322645623155612191341380702048729633245810503901075005967788009755438016030150765590049772877351367703474831225874211809703561206340498
def QU : Int := 45944358296722655131485137508831416275374521457835660621181088289464522777466712808699725939805573514378307321485736891839354520125093482444563480756969721206070559401497058989670148960897739583665593641631276039748094497895230483732665166113345594516361018384812914079394076674963913763608884207588474548673256513946062226330513699319928277439775691069282059341459936401991296679850666158444368836637169919530965438126092976697051333347113231149570117827342637313932255107360244189550922853758916909393227654203020817879429644899725213033422719545712699199665266420869368119603830809343866935473793278150230279673285432778846187732602463397063168087324430780639041499203953943835152504978197517113212673509661796164327355821688522960406985395997605724862158780182738888525101947570170335165082967137333998515228911643856831696409195553973634744425188053678530946895548524517478522004902748698562574173583353694461640834217118210052648043935049659107085186986501420780614451500129478029859454690503938054964393201669586068319926902427486216035495207767826306574399431731784110762543559527607795162824337607317289724632277917341463945737227538302099770850296239004034368616766019839074102362163549174926880060332461347153158791078367516273941900420534574899313797756085939629200275115332188865638733327242881944488735615162670662622825480949581890831617272595749217107263352164147339162570143297890270467225392235209996540614279338204938180868917350490252912386089379119852907658656825769930231838725148382907988851380351654557128498349601365502721438594290197874546386548277144162908458391932358009362193167366750128798934185739063652433724780093259600612598339657758553446103118212054191688674022756255514645262604835629354100548961943846318103055725712079636889930481628880830719815988738006484614510393992902491944687466608070559514937218084003030545724103123185195765909307205221731222071005259869444164662670349276058323751838270428800213181127683015145644040293582458460615173835073539004620760
theorem a1 (st : Store) : iso m_unit_power [.int 5, p2 3 1, .int 4784] st = .ok (p2 LT LU) st := of_run (by kernel_rfl) rfl rfl st
theorem a2 (st : Store) : iso m_unit_power [.int 5, p2 3 1, .int 4785] st = .exc 3000 st := iso_xcd (by kernel_rfl) rfl st
theorem a3 (st : Store) : iso m_unit_power [.int 5, p2 3 1, .int (-4784)] st = .ok (okv (up 5 (p2 3 1) (-4784))) st := iso_okv (by kernel_rfl) rfl st
theorem a4 (st : Store) : iso m_unit_power [.int 5, p2 3 1, .int (-4785)] st = .exc 3000 st := iso_xcd (by kernel_rfl) rfl st
theorem a5 (st : Store) : iso m_unit_power [.int 5, p2 3 1, .int 10000] st = .exc 3000 st := iso_xcd (by kernel_rfl) rfl st
theorem a6 (st : Store) : iso m_law_is_unit [.int 5, p2 LT LU] st = .ok (.bl true) st := of_run (by kernel_rfl) rfl rfl st
theorem a7 : ¬FAR ≤ LT := of_decide_eq_false (by kernel_rfl)
theorem a8 : ¬10 * LT < FAR := of_decide_eq_false (by kernel_rfl)
theorem a9 (st : Store) : iso m_unit_power [.int 5, p2 1 1, .int 9568] st = .ok (p2 LT LU) st := of_run (by kernel_rfl) rfl rfl st
theorem a10 (st : Store) : iso m_unit_product [.int 5, p2 LT LU, p2 3 1] st = .ok (p2 QT QU) st := of_run (by kernel_rfl) rfl rfl st
theorem a11 (st : Store) : iso m_unit_power [.int 5, p2 QT QU, .int 0] st = .ok (p2 2 0) st := of_run (by kernel_rfl) rfl rfl st
theorem a12 (st : Store) : iso m_unit_power [.int 5, p2 QT QU, .int 1] st = .exc 3000 st := iso_xcd (by kernel_rfl) rfl st
theorem a13 (st : Store) : iso m_unit_power [.int 5, p2 QT QU, .int (-1)] st = .exc 3000 st := iso_xcd (by kernel_rfl) rfl st
theorem b1 (st : Store) : iso m_unit_power [.int (-3), p2 1 1, .int 10000] st = .ok (p2 (-1) (-1)) st := of_run (by kernel_rfl) rfl rfl st
theorem b2 (st : Store) : iso m_unit_power [.int (-3), p2 1 1, .int (-9999)] st = .ok (p2 (-2) 0) st := of_run (by kernel_rfl) rfl rfl st
theorem b3 (st : Store) : iso m_unit_power [.int (-4), p2 0 1, .int 9998] st = .ok (p2 (-2) 0) st := of_run (by kernel_rfl) rfl rfl st
theorem b4 (st : Store) : iso m_unit_power [.int 0, p2 2 5, .int 10000] st = .ok (p2 2 50000) st := of_run (by kernel_rfl) rfl rfl st
theorem b5 (st : Store) : iso m_unit_power [.int 0, p2 (-2) 3, .int 5] st = .ok (p2 (-2) 15) st := of_run (by kernel_rfl) rfl rfl st
theorem b6 (st : Store) : iso m_unit_power [.int 1, p2 0 2, .int 3] st = .ok (p2 0 2) st := of_run (by kernel_rfl) rfl rfl st
theorem b7 (st : Store) : iso m_unit_power [.int 0, p2 2 FAR, .int 2] st = .ok (p2 2 (2 * FAR)) st := of_run (by kernel_rfl) rfl rfl st
theorem b8 (st : Store) : iso m_unit_power [.int 9, p2 (-2) 0, .int (-7)] st = .ok (p2 (-2) 0) st := of_run (by kernel_rfl) rfl rfl st
theorem w3000 : werr 3000 = some ⟨#[109, 97, 110, 121, 32, 50, 48, 48, 48]⟩ := by kernel_rfl
theorem cF1 : cMul 2 FAR = true := by kernel_rfl
theorem cF2 : cMul 10 LT = true := by kernel_rfl
theorem digits_i (st : Store) : iso m_law_digits_right [] st = .ok (.bl true) st := by
  refine iso_pure ?_ rfl rfl st
  have x1 := ten2
  have x2 := a1
  have x3 := a2
  have x4 := a3
  have x5 := a4
  have x6 := a5
  have x7 := a6
  have x8 := a7
  have x9 := a8
  have y1 := a9
  have y2 := a10
  have y3 := a11
  have y4 := a12
  have y5 := a13
  have y6 := b7
  have y7 := cF1
  have y8 := cF2
  generalize okv (up 5 (p2 3 1) (-4784)) = v1 at *
  generalize FAR = W at *
  generalize LT = X at *
  generalize LU = Y at *
  generalize QT = Z at *
  generalize QU = U at *
  have LU7 := @lcU 7 (by decide)
  unfold m_law_digits_right
  simp [r_fnM, bR_ok, bR_exc, bR_bad, liftR_some, liftR_none, varR_some, r_var, r_c, r_kB2, r_kB1, r_bin, r_kUn, r_un, r_kC2, r_kC1, r_nil, r_cons, r_kTup, r_kLst, r_tup, r_lst, r_kCall, r_call, r_fn, r_fnl2, r_fnlR, r_fnl, r_kBl, r_mBl, r_truthR, r_kTruth, truth, r_mTruth, r_kIfT, r_kIfF, r_if, r_sif, r_cRet, r_and, r_or, r_kNot, r_not, r_kNotB, r_bnot, r_band, r_bor, r_true, r_kCh3T, r_kCh3F, r_kCh2, r_kCh1, r_chain, r_kOpt, r_pNone, r_pSome, r_kSl3, r_kSl2, r_kSl1, r_sl, r_kM2, r_kM1, r_m1, r_kOfL, r_kOfT, r_of, r_kRange1, r_kRange2, r_range, r_kZipL, r_kZipT, r_zip, r_kLc, r_lc, r_totR, r_mtot, r_setR, r_kLc2, r_kLc1T, r_kLc1F, r_kLc0, r_lcL0, r_lcL, r_kSeqN, r_kSeqR, r_kSeqB, r_kSeqC, r_seq, r_snil, r_brk, r_cont, r_asgR, r_kAsg, r_asg, r_kPar, r_par, r_kPar3, r_par3, r_kRet, r_ret, r_kExpr, r_expr, r_raise, r_kSet3, r_kSet2, r_kSet1, r_set, r_kFor, r_for, r_kForLN, r_kForLC, r_kForLB, r_kForLR, r_kForL0, r_forL0, r_forL, r_kEndN, r_kEndR, f1, f2, gIx, atI, ixN, gLen, gAbs, gInt, gTuple, gIsi, tyOf, isTy, gAdd, gMul, iBin_t, iMod_k, iDiv_k, iMul_k, iPow_k, iNeg, tAddO, lAdd, sAdd, lRep, tRep, gIsN, isNon, gIn, inF, eqF, gEqB, tp_non, tp_bl, tp_int, tp_str, tp_tup, tp_loc, allPy, PyData.eqv, PyData.eqvAll, Tg.set, Tgs.set, rBound, forR, forT, lcR, lcT, rangeD, wipeE, noLoc, noLocs, gAll, allBl, ieq, like_l, likeR, plains, plainD, likePs, likeP, r_nxR, r_nxLoc, r_zipR, r_zipR0, r_zipR1, r_nxZip, r_orR, r_orRx, r_kK2, r_kK1T, r_kK1F, r_kK0, r_lcKa0, r_lcKa1, r_lcK, r_kF1N, r_kF1C, r_kF1B, r_kF1R, r_kF0, r_forFa0, r_forFa1, r_forF, r_errW, r_errO, r_errE, r_err, gGcd, r_kRaiseL, r_raiseL, r_orT2T, r_orT2F, r_kOrT, r_orT, gBits, gRev, gStr, gSl, Mir.cutD, HT.sIx, rets_ok, b_law_digits_right, x1, x2, x3, x4, x5, x6, x7, x8, x9, y1, y2, y3, y4, y5, y6, y7, y8, b1, b2, b3, b4, b5, b6, b8, w3000, nerr, likeP]
theorem part_one (c : Cup) (x y z : List D) : ∃ c', OkN (l1_law ns [some .scr, some (.loc 3), o2, none, none, none, none] [x, y, z, cs c]) fun e st => e = [some .scr, some (.loc 3), o2, none, none, none, none] ∧ st = [x, y, z, cs c'] := by
  obtain ⟨n, c1, N, e1⟩ := number_m c
  obtain ⟨c2, e2⟩ := right_x N c1
  have e1 := iso_cup3 (ds := []) e1 rfl rfl x y z
  have e2 := iso_cup3 (ds := [.int n]) e2 rfl rfl x y z
  refine ⟨c2, ?_⟩
  simp [r_fnM, bR_ok, bR_exc, bR_bad, liftR_some, liftR_none, varR_some, r_var, r_c, r_kB2, r_kB1, r_bin, r_kUn, r_un, r_kC2, r_kC1, r_nil, r_cons, r_kTup, r_kLst, r_tup, r_lst, r_kCall, r_call, r_fn, r_fnl2, r_fnlR, r_fnl, r_kBl, r_mBl, r_truthR, r_kTruth, truth, r_mTruth, r_kIfT, r_kIfF, r_if, r_sif, r_cRet, r_and, r_or, r_kNot, r_not, r_kNotB, r_bnot, r_band, r_bor, r_true, r_kCh3T, r_kCh3F, r_kCh2, r_kCh1, r_chain, r_kOpt, r_pNone, r_pSome, r_kSl3, r_kSl2, r_kSl1, r_sl, r_kM2, r_kM1, r_m1, r_kOfL, r_kOfT, r_of, r_kRange1, r_kRange2, r_range, r_kZipL, r_kZipT, r_zip, r_kLc, r_lc, r_totR, r_mtot, r_setR, r_kLc2, r_kLc1T, r_kLc1F, r_kLc0, r_lcL0, r_lcL, r_kSeqN, r_kSeqR, r_kSeqB, r_kSeqC, r_seq, r_snil, r_brk, r_cont, r_asgR, r_kAsg, r_asg, r_kPar, r_par, r_kPar3, r_par3, r_kRet, r_ret, r_kExpr, r_expr, r_raise, r_kSet3, r_kSet2, r_kSet1, r_set, r_kFor, r_for, r_kForLN, r_kForLC, r_kForLB, r_kForLR, r_kForL0, r_forL0, r_forL, r_kEndN, r_kEndR, f1, f2, gIx, atI, ixN, gLen, gAbs, gInt, gTuple, gIsi, tyOf, isTy, gAdd, gMul, iBin_t, iMod_k, iDiv_k, iMul_k, iPow_k, iNeg, tAddO, lAdd, sAdd, lRep, tRep, gIsN, isNon, gIn, inF, eqF, gEqB, tp_non, tp_bl, tp_int, tp_str, tp_tup, tp_loc, allPy, PyData.eqv, PyData.eqvAll, Tg.set, Tgs.set, rBound, forR, forT, lcR, lcT, rangeD, wipeE, noLoc, noLocs, gAll, allBl, ieq, like_l, likeR, plains, plainD, likePs, likeP, r_nxR, r_nxLoc, r_zipR, r_zipR0, r_zipR1, r_nxZip, r_orR, r_orRx, r_kK2, r_kK1T, r_kK1F, r_kK0, r_lcKa0, r_lcKa1, r_lcK, r_kF1N, r_kF1C, r_kF1B, r_kF1R, r_kF0, r_forFa0, r_forFa1, r_forF, r_errW, r_errO, r_errE, r_err, gGcd, r_kRaiseL, r_raiseL, r_orT2T, r_orT2F, r_kOrT, r_orT, gBits, gRev, gStr, gSl, Mir.cutD, HT.sIx, okN_ok, l1_law, e1, e2]
def vals : List D := [.int 10000000, .int (-10000000), .int 9999997, .int (-9999999), .int 0, .int 1, .int 4, .int (-3), .int 10000001, .int 2, .int 3, .int (-1), .int (-2), .int (-9999998), .non, .bl true, .str ⟨#[52]⟩, .tup [.int 4], .int 10000000000000000000000000000000000000000]
def oks : List D := [.bl true, .bl true, .bl true, .bl true, .bl true, .bl true, .bl true, .bl true, .bl false, .bl false, .bl false, .bl false, .bl false, .bl false, .bl false, .bl false, .bl false, .bl false, .bl false]
theorem disc_lc (x y z : List D) (c : Cup) (o2 : Option D) : lcN (nxLoc 4) (.nm 6) cTrue (eFn 1 m_is_discriminant (aCons (eVar 6) aNil)) [some .scr, some (.loc 3), o2, some (.loc 4), none, none, none] FUEL 0 [] [x, y, z, cs c, vals] = .ok (.loc 5) [x, y, z, cs c, vals, oks] := by kernel_rfl
def LawI7 (x y z : List D) (env : Mir.Env) (st : Store) : Prop := ∃ (o : Option D) (c : Cup), env = [some .scr, some (.loc 3), o, none, none, none, none] ∧ st = [x, y, z, cs c]
theorem t1 (st : Store) : iso m_unit_norm [.int 5, p2 1 1] st = .ok (.int (-1)) st := of_run (by kernel_rfl) rfl rfl st
theorem t2 (st : Store) : iso m_unit_product [.int 5, p2 1 1, p2 1 1] st = .ok (p2 3 1) st := of_run (by kernel_rfl) rfl rfl st
theorem t3 (st : Store) : iso m_unit_back [.int 5, p2 1 1] st = .ok (p2 (-1) 1) st := of_run (by kernel_rfl) rfl rfl st
theorem t4 (st : Store) : iso m_unit_power [.int 8, p2 2 1, .int 3] st = .ok (p2 14 5) st := of_run (by kernel_rfl) rfl rfl st
theorem t5 (st : Store) : iso m_unit_power [.int 5, p2 3 1, .int (-2)] st = .ok (p2 7 (-3)) st := of_run (by kernel_rfl) rfl rfl st
theorem t6 (st : Store) : iso m_is_above_one [.int 5, p2 (-1) 1] st = .ok (.bl false) st := of_run (by kernel_rfl) rfl rfl st
theorem t7 (st : Store) : iso m_is_above_one [.int 5, p2 2 0] st = .ok (.bl false) st := of_run (by kernel_rfl) rfl rfl st
theorem t8 (st : Store) : iso m_unit_opposite [.int 5, p2 3 1] st = .ok (p2 (-3) (-1)) st := of_run (by kernel_rfl) rfl rfl st
theorem t9 (st : Store) : iso m_is_unit [.int 5, p2 2 1] st = .ok (.bl false) st := of_run (by kernel_rfl) rfl rfl st
theorem t10 (st : Store) : iso m_is_unit [.int 61, p2 39 5] st = .ok (.bl true) st := of_run (by kernel_rfl) rfl rfl st
theorem t11 (st : Store) : iso m_is_unit [.int 0, p2 2 FAR3] st = .ok (.bl true) st := of_run (by kernel_rfl) rfl rfl st
theorem t12 (st : Store) : iso m_is_unit [.int (-4), p2 0 (-1)] st = .ok (.bl true) st := of_run (by kernel_rfl) rfl rfl st
theorem t13 (st : Store) : iso m_is_free [.int 9] st = .ok (.bl false) st := of_run (by kernel_rfl) rfl rfl st
theorem t14 (st : Store) : iso m_is_free [.int 0] st = .ok (.bl false) st := of_run (by kernel_rfl) rfl rfl st
theorem right (ns : List Int) (hl : ns.length ≤ 63) (hb : ∀ z ∈ ns, Builtin.Int.intBits z ≤ 1048576) : ∃ st, m_law ns [.scr] [] = .ok (.bl true) st := by
  obtain ⟨x, y, z, c, e1⟩ := cup_x ns hl hb
  obtain ⟨env, st, el, I⟩ := forL_inv (t := .nm 2) (b := l1_law ns) (I := LawI7 x y z) (rangeD 0 24) [some .scr, some (.loc 3), none, none, none, none, none] [x, y, z, cs c] (fun w hw env st I => by
    obtain ⟨i, rfl, _⟩ := range_int _ _ _ hw
    obtain ⟨o, c, rfl, rfl⟩ := I
    obtain ⟨c', e⟩ := part_one (ns := ns) (o2 := some (.int i)) c x y z
    obtain ⟨e2, s2, e3, rfl, rfl⟩ := e.ex
    refine ⟨_, rfl, ?_⟩
    show OkN (l1_law ns [some .scr, some (.loc 3), some (.int i), none, none, none, none] [x, y, z, cs c]) _
    rw [e3, okN_ok]
    exact ⟨_, c', rfl, rfl⟩) ⟨none, c, rfl, rfl⟩
  obtain ⟨o, c2, rfl, rfl⟩ := I
  have ec := cup_i e1
  have dl := disc_lc x y z c2 o
  have h3 := ten3
  have h11 := t11
  generalize FAR3 = W at *
  have p7 : cPow 10 7 = true := by decide
  have p40 : cPow 10 40 = true := by decide
  refine Rets.ex ?_
  unfold m_law
  unfold vals oks at dl
  simp [r_fnM, bR_ok, bR_exc, bR_bad, liftR_some, liftR_none, varR_some, r_var, r_c, r_kB2, r_kB1, r_bin, r_kUn, r_un, r_kC2, r_kC1, r_nil, r_cons, r_kTup, r_kLst, r_tup, r_lst, r_kCall, r_call, r_fn, r_fnl2, r_fnlR, r_fnl, r_kBl, r_mBl, r_truthR, r_kTruth, truth, r_mTruth, r_kIfT, r_kIfF, r_if, r_sif, r_cRet, r_and, r_or, r_kNot, r_not, r_kNotB, r_bnot, r_band, r_bor, r_true, r_kCh3T, r_kCh3F, r_kCh2, r_kCh1, r_chain, r_kOpt, r_pNone, r_pSome, r_kSl3, r_kSl2, r_kSl1, r_sl, r_kM2, r_kM1, r_m1, r_kOfL, r_kOfT, r_of, r_kRange1, r_kRange2, r_range, r_kZipL, r_kZipT, r_zip, r_kLc, r_lc, r_totR, r_mtot, r_setR, r_kLc2, r_kLc1T, r_kLc1F, r_kLc0, r_lcL0, r_lcL, r_kSeqN, r_kSeqR, r_kSeqB, r_kSeqC, r_seq, r_snil, r_brk, r_cont, r_asgR, r_kAsg, r_asg, r_kPar, r_par, r_kPar3, r_par3, r_kRet, r_ret, r_kExpr, r_expr, r_raise, r_kSet3, r_kSet2, r_kSet1, r_set, r_kFor, r_for, r_kForLN, r_kForLC, r_kForLB, r_kForLR, r_kForL0, r_kEndN, r_kEndR, f1, f2, gIx, atI, ixN, gLen, gAbs, gInt, gTuple, gIsi, tyOf, isTy, gAdd, gMul, iBin_t, iMod_k, iDiv_k, iMul_k, iPow_k, iNeg, tAddO, lAdd, sAdd, lRep, tRep, gIsN, isNon, gIn, inF, eqF, gEqB, tp_non, tp_bl, tp_int, tp_str, tp_tup, tp_loc, allPy, PyData.eqv, PyData.eqvAll, Tg.set, Tgs.set, rBound, forR, forT, lcR, lcT, wipeE, noLoc, noLocs, gAll, allBl, ieq, like_l, likeR, plains, plainD, likePs, likeP, r_nxR, r_nxLoc, r_zipR, r_zipR0, r_zipR1, r_nxZip, r_orR, r_orRx, r_kK2, r_kK1T, r_kK1F, r_kK0, r_lcKa0, r_lcKa1, r_lcK, r_kF1N, r_kF1C, r_kF1B, r_kF1R, r_kF0, r_forFa0, r_forFa1, r_forF, r_errW, r_errO, r_errE, r_err, gGcd, r_kRaiseL, r_raiseL, r_orT2T, r_orT2F, r_kOrT, r_orT, gBits, gRev, gStr, gSl, Mir.cutD, HT.sIx, rets_ok, b_law, ec, el, dl, h3, h11, p7, p40, t1, t2, t3, t4, t5, t6, t7, t8, t9, t10, t12, t13, t14, digits_i, errors_i, likeP]
end K21
/-! K21Z: what the top has written, and the law's end (printed by gen.py). -/
namespace K21
open PySem _root_.L2 Mir PyProof.Rows
/-- the law at the heap that the top leaves -/
theorem fin_law (right : ∀ ns : List Int, ns.length ≤ 63 → (∀ z ∈ ns, Builtin.Int.intBits z ≤ 1048576) → ∃ st, m_law ns [.scr] [] = .ok (.bl true) st)
    {l : PySem.W.OpenLaw} {w : World} {K : PySem.W.Frag} {h : Heap} {mg : Str → Option Value} {fa : Addr} (KX : K.In h) (NS : h.Ns mainGlobals mg) (hfa : mg "law" = some (.ref fa))
    {a_is_whole : Addr} {od_is_whole an_is_whole : Option Addr} {sl_is_whole : Array (Option Value)} {oc_is_whole kV_is_whole dc_is_whole pm_is_whole ct_is_whole cd_is_whole : Value} {a_need_whole : Addr} {od_need_whole an_need_whole : Option Addr} {sl_need_whole : Array (Option Value)} {oc_need_whole kV_need_whole dc_need_whole pm_need_whole ct_need_whole cd_need_whole : Value} {a_is_tuple_of : Addr} {od_is_tuple_of an_is_tuple_of : Option Addr} {sl_is_tuple_of : Array (Option Value)} {oc_is_tuple_of kV_is_tuple_of dc_is_tuple_of pm_is_tuple_of ct_is_tuple_of cd_is_tuple_of : Value} {a_is_integer : Addr} {od_is_integer an_is_integer : Option Addr} {sl_is_integer : Array (Option Value)} {oc_is_integer kV_is_integer dc_is_integer pm_is_integer ct_is_integer cd_is_integer : Value} {a_root : Addr} {od_root an_root : Option Addr} {sl_root : Array (Option Value)} {oc_root kV_root dc_root pm_root ct_root cd_root : Value} {a_is_square : Addr} {od_is_square an_is_square : Option Addr} {sl_is_square : Array (Option Value)} {oc_is_square kV_is_square dc_is_square pm_is_square ct_is_square cd_is_square : Value} {a_is_number : Addr} {od_is_number an_is_number : Option Addr} {sl_is_number : Array (Option Value)} {oc_is_number kV_is_number dc_is_number pm_is_number ct_is_number cd_is_number : Value} {a_need_number : Addr} {od_need_number an_need_number : Option Addr} {sl_need_number : Array (Option Value)} {oc_need_number kV_need_number dc_need_number pm_need_number ct_need_number cd_need_number : Value} {a_is_free_in : Addr} {od_is_free_in an_is_free_in : Option Addr} {sl_is_free_in : Array (Option Value)} {oc_is_free_in kV_is_free_in dc_is_free_in pm_is_free_in ct_is_free_in cd_is_free_in : Value} {a_need_free : Addr} {od_need_free an_need_free : Option Addr} {sl_need_free : Array (Option Value)} {oc_need_free kV_need_free dc_need_free pm_need_free ct_need_free cd_need_free : Value} {a_size_of : Addr} {od_size_of an_size_of : Option Addr} {sl_size_of : Array (Option Value)} {oc_size_of kV_size_of dc_size_of pm_size_of ct_size_of cd_size_of : Value} {a_fits : Addr} {od_fits an_fits : Option Addr} {sl_fits : Array (Option Value)} {oc_fits kV_fits dc_fits pm_fits ct_fits cd_fits : Value} {a_need_unit : Addr} {od_need_unit an_need_unit : Option Addr} {sl_need_unit : Array (Option Value)} {oc_need_unit kV_need_unit dc_need_unit pm_need_unit ct_need_unit cd_need_unit : Value} {a_norm_of : Addr} {od_norm_of an_norm_of : Option Addr} {sl_norm_of : Array (Option Value)} {oc_norm_of kV_norm_of dc_norm_of pm_norm_of ct_norm_of cd_norm_of : Value} {a_times : Addr} {od_times an_times : Option Addr} {sl_times : Array (Option Value)} {oc_times kV_times dc_times pm_times ct_times cd_times : Value} {a_back : Addr} {od_back an_back : Option Addr} {sl_back : Array (Option Value)} {oc_back kV_back dc_back pm_back ct_back cd_back : Value} {a_opposite : Addr} {od_opposite an_opposite : Option Addr} {sl_opposite : Array (Option Value)} {oc_opposite kV_opposite dc_opposite pm_opposite ct_opposite cd_opposite : Value} {a_bits_of : Addr} {od_bits_of an_bits_of : Option Addr} {sl_bits_of : Array (Option Value)} {oc_bits_of kV_bits_of dc_bits_of pm_bits_of ct_bits_of cd_bits_of : Value} {a_raised : Addr} {od_raised an_raised : Option Addr} {sl_raised : Array (Option Value)} {oc_raised kV_raised dc_raised pm_raised ct_raised cd_raised : Value} {a_grown : Addr} {od_grown an_grown : Option Addr} {sl_grown : Array (Option Value)} {oc_grown kV_grown dc_grown pm_grown ct_grown cd_grown : Value} {a_great : Addr} {od_great an_great : Option Addr} {sl_great : Array (Option Value)} {oc_great kV_great dc_great pm_great ct_great cd_great : Value} {a_is_above : Addr} {od_is_above an_is_above : Option Addr} {sl_is_above : Array (Option Value)} {oc_is_above kV_is_above dc_is_above pm_is_above ct_is_above cd_is_above : Value} {a_is_discriminant : Addr} {od_is_discriminant an_is_discriminant : Option Addr} {sl_is_discriminant : Array (Option Value)} {oc_is_discriminant kV_is_discriminant dc_is_discriminant pm_is_discriminant ct_is_discriminant cd_is_discriminant : Value} {a_is_free : Addr} {od_is_free an_is_free : Option Addr} {sl_is_free : Array (Option Value)} {oc_is_free kV_is_free dc_is_free pm_is_free ct_is_free cd_is_free : Value} {a_is_unit : Addr} {od_is_unit an_is_unit : Option Addr} {sl_is_unit : Array (Option Value)} {oc_is_unit kV_is_unit dc_is_unit pm_is_unit ct_is_unit cd_is_unit : Value} {a_unit_norm : Addr} {od_unit_norm an_unit_norm : Option Addr} {sl_unit_norm : Array (Option Value)} {oc_unit_norm kV_unit_norm dc_unit_norm pm_unit_norm ct_unit_norm cd_unit_norm : Value} {a_unit_product : Addr} {od_unit_product an_unit_product : Option Addr} {sl_unit_product : Array (Option Value)} {oc_unit_product kV_unit_product dc_unit_product pm_unit_product ct_unit_product cd_unit_product : Value} {a_unit_back : Addr} {od_unit_back an_unit_back : Option Addr} {sl_unit_back : Array (Option Value)} {oc_unit_back kV_unit_back dc_unit_back pm_unit_back ct_unit_back cd_unit_back : Value} {a_unit_opposite : Addr} {od_unit_opposite an_unit_opposite : Option Addr} {sl_unit_opposite : Array (Option Value)} {oc_unit_opposite kV_unit_opposite dc_unit_opposite pm_unit_opposite ct_unit_opposite cd_unit_opposite : Value} {a_unit_power : Addr} {od_unit_power an_unit_power : Option Addr} {sl_unit_power : Array (Option Value)} {oc_unit_power kV_unit_power dc_unit_power pm_unit_power ct_unit_power cd_unit_power : Value} {a_is_above_one : Addr} {od_is_above_one an_is_above_one : Option Addr} {sl_is_above_one : Array (Option Value)} {oc_is_above_one kV_is_above_one dc_is_above_one pm_is_above_one ct_is_above_one cd_is_above_one : Value} {a_law_cup : Addr} {od_law_cup an_law_cup : Option Addr} {sl_law_cup : Array (Option Value)} {oc_law_cup kV_law_cup dc_law_cup pm_law_cup ct_law_cup cd_law_cup : Value} {a_law_roll : Addr} {od_law_roll an_law_roll : Option Addr} {sl_law_roll : Array (Option Value)} {oc_law_roll kV_law_roll dc_law_roll pm_law_roll ct_law_roll cd_law_roll : Value} {a_law_some : Addr} {od_law_some an_law_some : Option Addr} {sl_law_some : Array (Option Value)} {oc_law_some kV_law_some dc_law_some pm_law_some ct_law_some cd_law_some : Value} {a_law_sort : Addr} {od_law_sort an_law_sort : Option Addr} {sl_law_sort : Array (Option Value)} {oc_law_sort kV_law_sort dc_law_sort pm_law_sort ct_law_sort cd_law_sort : Value} {a_law_like : Addr} {od_law_like an_law_like : Option Addr} {sl_law_like : Array (Option Value)} {oc_law_like kV_law_like dc_law_like pm_law_like ct_law_like cd_law_like : Value} {a_law_root : Addr} {od_law_root an_law_root : Option Addr} {sl_law_root : Array (Option Value)} {oc_law_root kV_law_root dc_law_root pm_law_root ct_law_root cd_law_root : Value} {a_law_is_unit : Addr} {od_law_is_unit an_law_is_unit : Option Addr} {sl_law_is_unit : Array (Option Value)} {oc_law_is_unit kV_law_is_unit dc_law_is_unit pm_law_is_unit ct_law_is_unit cd_law_is_unit : Value} {a_law_norm : Addr} {od_law_norm an_law_norm : Option Addr} {sl_law_norm : Array (Option Value)} {oc_law_norm kV_law_norm dc_law_norm pm_law_norm ct_law_norm cd_law_norm : Value} {a_law_times : Addr} {od_law_times an_law_times : Option Addr} {sl_law_times : Array (Option Value)} {oc_law_times kV_law_times dc_law_times pm_law_times ct_law_times cd_law_times : Value} {a_law_power : Addr} {od_law_power an_law_power : Option Addr} {sl_law_power : Array (Option Value)} {oc_law_power kV_law_power dc_law_power pm_law_power ct_law_power cd_law_power : Value} {a_law_first : Addr} {od_law_first an_law_first : Option Addr} {sl_law_first : Array (Option Value)} {oc_law_first kV_law_first dc_law_first pm_law_first ct_law_first cd_law_first : Value} {a_law_error : Addr} {od_law_error an_law_error : Option Addr} {sl_law_error : Array (Option Value)} {oc_law_error kV_law_error dc_law_error pm_law_error ct_law_error cd_law_error : Value} {a_law_number : Addr} {od_law_number an_law_number : Option Addr} {sl_law_number : Array (Option Value)} {oc_law_number kV_law_number dc_law_number pm_law_number ct_law_number cd_law_number : Value} {a_law_unit : Addr} {od_law_unit an_law_unit : Option Addr} {sl_law_unit : Array (Option Value)} {oc_law_unit kV_law_unit dc_law_unit pm_law_unit ct_law_unit cd_law_unit : Value} {a_law_is_free : Addr} {od_law_is_free an_law_is_free : Option Addr} {sl_law_is_free : Array (Option Value)} {oc_law_is_free kV_law_is_free dc_law_is_free pm_law_is_free ct_law_is_free cd_law_is_free : Value} {a_law_near : Addr} {od_law_near an_law_near : Option Addr} {sl_law_near : Array (Option Value)} {oc_law_near kV_law_near dc_law_near pm_law_near ct_law_near cd_law_near : Value} {a_law_right : Addr} {od_law_right an_law_right : Option Addr} {sl_law_right : Array (Option Value)} {oc_law_right kV_law_right dc_law_right pm_law_right ct_law_right : Value} {c_law_right t_law_right : Addr} {a_law_ten : Addr} {od_law_ten an_law_ten : Option Addr} {sl_law_ten : Array (Option Value)} {oc_law_ten kV_law_ten dc_law_ten pm_law_ten ct_law_ten cd_law_ten : Value} {a_law_digits_right : Addr} {od_law_digits_right an_law_digits_right : Option Addr} {sl_law_digits_right : Array (Option Value)} {oc_law_digits_right kV_law_digits_right dc_law_digits_right pm_law_digits_right ct_law_digits_right : Value} {c_law_digits_right t_law_digits_right : Addr} {a_law_errors_right : Addr} {od_law_errors_right an_law_errors_right : Option Addr} {sl_law_errors_right : Array (Option Value)} {oc_law_errors_right kV_law_errors_right dc_law_errors_right pm_law_errors_right ct_law_errors_right : Value} {c_law_errors_right t_law_errors_right : Addr} {a_law : Addr} {od_law an_law : Option Addr} {sl_law : Array (Option Value)} {oc_law kV_law dc_law pm_law ct_law cd_law : Value} {tk_MOST : Tok} {tk_DIGITS : Tok} {tk_OFTEN : Tok} {v_ONE : Value} {C_WholeError : Addr} {C_InvalidNumber : Addr} {C_InvalidUnit : Addr} {C_NotNow : Addr} {C_TooMany : Addr} {fI_L cc_L cda_L N_L : Addr} {od_L an_L cdd_L cld_L dd_L : Option Addr} {vs_L : Array Value} {sl_L ccs_L csl_L : Array (Option Value)} {oc_L kV_L dc_L pm_L ct_L ccl_L cl_L : Value} {file_L nm_L q_L : Str} {tf_L : Tok} {bs_L bm_L sub_L : List Value} {sn_L : List Str} {ab_L : Bool} {col_L : Option Bool} {k0_L k1_L k2_L k3_L k5_L : Option Value} {q0_L q1_L q2_L q3_L q4_L q5_L q6_L q7_L q8_L q9_L : Pos}
    (ha_is_whole : PySem.W.nsIn K mainGlobals "is_whole" = some (some (.ref a_is_whole)))
    (hl_is_whole : K.lookup a_is_whole = some ⟨oc_is_whole, od_is_whole, .func (PySem.W.fnOf "is_whole" "is_whole" (defArgs s_is_whole) (defBody s_is_whole) (defScope s_is_whole) .none kV_is_whole dc_is_whole pm_is_whole an_is_whole cd_is_whole ct_is_whole), sl_is_whole⟩)
    (hc_is_whole : PySem.W.codeIn K cd_is_whole "is_whole" = true)
    (hk_is_whole : PySem.W.keepIn K (.ref a_is_whole) = true)
    (ha_need_whole : PySem.W.nsIn K mainGlobals "need_whole" = some (some (.ref a_need_whole)))
    (hl_need_whole : K.lookup a_need_whole = some ⟨oc_need_whole, od_need_whole, .func (PySem.W.fnOf "need_whole" "need_whole" (defArgs s_need_whole) (defBody s_need_whole) (defScope s_need_whole) .none kV_need_whole dc_need_whole pm_need_whole an_need_whole cd_need_whole ct_need_whole), sl_need_whole⟩)
    (hc_need_whole : PySem.W.codeIn K cd_need_whole "need_whole" = true)
    (hk_need_whole : PySem.W.keepIn K (.ref a_need_whole) = true)
    (ha_is_tuple_of : PySem.W.nsIn K mainGlobals "is_tuple_of" = some (some (.ref a_is_tuple_of)))
    (hl_is_tuple_of : K.lookup a_is_tuple_of = some ⟨oc_is_tuple_of, od_is_tuple_of, .func (PySem.W.fnOf "is_tuple_of" "is_tuple_of" (defArgs s_is_tuple_of) (defBody s_is_tuple_of) (defScope s_is_tuple_of) .none kV_is_tuple_of dc_is_tuple_of pm_is_tuple_of an_is_tuple_of cd_is_tuple_of ct_is_tuple_of), sl_is_tuple_of⟩)
    (hc_is_tuple_of : PySem.W.codeIn K cd_is_tuple_of "is_tuple_of" = true)
    (hk_is_tuple_of : PySem.W.keepIn K (.ref a_is_tuple_of) = true)
    (ha_is_integer : PySem.W.nsIn K mainGlobals "is_integer" = some (some (.ref a_is_integer)))
    (hl_is_integer : K.lookup a_is_integer = some ⟨oc_is_integer, od_is_integer, .func (PySem.W.fnOf "is_integer" "is_integer" (defArgs s_is_integer) (defBody s_is_integer) (defScope s_is_integer) .none kV_is_integer dc_is_integer pm_is_integer an_is_integer cd_is_integer ct_is_integer), sl_is_integer⟩)
    (hc_is_integer : PySem.W.codeIn K cd_is_integer "is_integer" = true)
    (hk_is_integer : PySem.W.keepIn K (.ref a_is_integer) = true)
    (ha_root : PySem.W.nsIn K mainGlobals "root" = some (some (.ref a_root)))
    (hl_root : K.lookup a_root = some ⟨oc_root, od_root, .func (PySem.W.fnOf "root" "root" (defArgs s_root) (defBody s_root) (defScope s_root) .none kV_root dc_root pm_root an_root cd_root ct_root), sl_root⟩)
    (hc_root : PySem.W.codeIn K cd_root "root" = true)
    (hk_root : PySem.W.keepIn K (.ref a_root) = true)
    (ha_is_square : PySem.W.nsIn K mainGlobals "is_square" = some (some (.ref a_is_square)))
    (hl_is_square : K.lookup a_is_square = some ⟨oc_is_square, od_is_square, .func (PySem.W.fnOf "is_square" "is_square" (defArgs s_is_square) (defBody s_is_square) (defScope s_is_square) .none kV_is_square dc_is_square pm_is_square an_is_square cd_is_square ct_is_square), sl_is_square⟩)
    (hc_is_square : PySem.W.codeIn K cd_is_square "is_square" = true)
    (hk_is_square : PySem.W.keepIn K (.ref a_is_square) = true)
    (ha_is_number : PySem.W.nsIn K mainGlobals "is_number" = some (some (.ref a_is_number)))
    (hl_is_number : K.lookup a_is_number = some ⟨oc_is_number, od_is_number, .func (PySem.W.fnOf "is_number" "is_number" (defArgs s_is_number) (defBody s_is_number) (defScope s_is_number) .none kV_is_number dc_is_number pm_is_number an_is_number cd_is_number ct_is_number), sl_is_number⟩)
    (hc_is_number : PySem.W.codeIn K cd_is_number "is_number" = true)
    (hk_is_number : PySem.W.keepIn K (.ref a_is_number) = true)
    (ha_need_number : PySem.W.nsIn K mainGlobals "need_number" = some (some (.ref a_need_number)))
    (hl_need_number : K.lookup a_need_number = some ⟨oc_need_number, od_need_number, .func (PySem.W.fnOf "need_number" "need_number" (defArgs s_need_number) (defBody s_need_number) (defScope s_need_number) .none kV_need_number dc_need_number pm_need_number an_need_number cd_need_number ct_need_number), sl_need_number⟩)
    (hc_need_number : PySem.W.codeIn K cd_need_number "need_number" = true)
    (hk_need_number : PySem.W.keepIn K (.ref a_need_number) = true)
    (ha_is_free_in : PySem.W.nsIn K mainGlobals "is_free_in" = some (some (.ref a_is_free_in)))
    (hl_is_free_in : K.lookup a_is_free_in = some ⟨oc_is_free_in, od_is_free_in, .func (PySem.W.fnOf "is_free_in" "is_free_in" (defArgs s_is_free_in) (defBody s_is_free_in) (defScope s_is_free_in) .none kV_is_free_in dc_is_free_in pm_is_free_in an_is_free_in cd_is_free_in ct_is_free_in), sl_is_free_in⟩)
    (hc_is_free_in : PySem.W.codeIn K cd_is_free_in "is_free_in" = true)
    (hk_is_free_in : PySem.W.keepIn K (.ref a_is_free_in) = true)
    (ha_need_free : PySem.W.nsIn K mainGlobals "need_free" = some (some (.ref a_need_free)))
    (hl_need_free : K.lookup a_need_free = some ⟨oc_need_free, od_need_free, .func (PySem.W.fnOf "need_free" "need_free" (defArgs s_need_free) (defBody s_need_free) (defScope s_need_free) .none kV_need_free dc_need_free pm_need_free an_need_free cd_need_free ct_need_free), sl_need_free⟩)
    (hc_need_free : PySem.W.codeIn K cd_need_free "need_free" = true)
    (hk_need_free : PySem.W.keepIn K (.ref a_need_free) = true)
    (ha_size_of : PySem.W.nsIn K mainGlobals "size_of" = some (some (.ref a_size_of)))
    (hl_size_of : K.lookup a_size_of = some ⟨oc_size_of, od_size_of, .func (PySem.W.fnOf "size_of" "size_of" (defArgs s_size_of) (defBody s_size_of) (defScope s_size_of) .none kV_size_of dc_size_of pm_size_of an_size_of cd_size_of ct_size_of), sl_size_of⟩)
    (hc_size_of : PySem.W.codeIn K cd_size_of "size_of" = true)
    (hk_size_of : PySem.W.keepIn K (.ref a_size_of) = true)
    (ha_fits : PySem.W.nsIn K mainGlobals "fits" = some (some (.ref a_fits)))
    (hl_fits : K.lookup a_fits = some ⟨oc_fits, od_fits, .func (PySem.W.fnOf "fits" "fits" (defArgs s_fits) (defBody s_fits) (defScope s_fits) .none kV_fits dc_fits pm_fits an_fits cd_fits ct_fits), sl_fits⟩)
    (hc_fits : PySem.W.codeIn K cd_fits "fits" = true)
    (hk_fits : PySem.W.keepIn K (.ref a_fits) = true)
    (ha_need_unit : PySem.W.nsIn K mainGlobals "need_unit" = some (some (.ref a_need_unit)))
    (hl_need_unit : K.lookup a_need_unit = some ⟨oc_need_unit, od_need_unit, .func (PySem.W.fnOf "need_unit" "need_unit" (defArgs s_need_unit) (defBody s_need_unit) (defScope s_need_unit) .none kV_need_unit dc_need_unit pm_need_unit an_need_unit cd_need_unit ct_need_unit), sl_need_unit⟩)
    (hc_need_unit : PySem.W.codeIn K cd_need_unit "need_unit" = true)
    (hk_need_unit : PySem.W.keepIn K (.ref a_need_unit) = true)
    (ha_norm_of : PySem.W.nsIn K mainGlobals "norm_of" = some (some (.ref a_norm_of)))
    (hl_norm_of : K.lookup a_norm_of = some ⟨oc_norm_of, od_norm_of, .func (PySem.W.fnOf "norm_of" "norm_of" (defArgs s_norm_of) (defBody s_norm_of) (defScope s_norm_of) .none kV_norm_of dc_norm_of pm_norm_of an_norm_of cd_norm_of ct_norm_of), sl_norm_of⟩)
    (hc_norm_of : PySem.W.codeIn K cd_norm_of "norm_of" = true)
    (hk_norm_of : PySem.W.keepIn K (.ref a_norm_of) = true)
    (ha_times : PySem.W.nsIn K mainGlobals "times" = some (some (.ref a_times)))
    (hl_times : K.lookup a_times = some ⟨oc_times, od_times, .func (PySem.W.fnOf "times" "times" (defArgs s_times) (defBody s_times) (defScope s_times) .none kV_times dc_times pm_times an_times cd_times ct_times), sl_times⟩)
    (hc_times : PySem.W.codeIn K cd_times "times" = true)
    (hk_times : PySem.W.keepIn K (.ref a_times) = true)
    (ha_back : PySem.W.nsIn K mainGlobals "back" = some (some (.ref a_back)))
    (hl_back : K.lookup a_back = some ⟨oc_back, od_back, .func (PySem.W.fnOf "back" "back" (defArgs s_back) (defBody s_back) (defScope s_back) .none kV_back dc_back pm_back an_back cd_back ct_back), sl_back⟩)
    (hc_back : PySem.W.codeIn K cd_back "back" = true)
    (hk_back : PySem.W.keepIn K (.ref a_back) = true)
    (ha_opposite : PySem.W.nsIn K mainGlobals "opposite" = some (some (.ref a_opposite)))
    (hl_opposite : K.lookup a_opposite = some ⟨oc_opposite, od_opposite, .func (PySem.W.fnOf "opposite" "opposite" (defArgs s_opposite) (defBody s_opposite) (defScope s_opposite) .none kV_opposite dc_opposite pm_opposite an_opposite cd_opposite ct_opposite), sl_opposite⟩)
    (hc_opposite : PySem.W.codeIn K cd_opposite "opposite" = true)
    (hk_opposite : PySem.W.keepIn K (.ref a_opposite) = true)
    (ha_bits_of : PySem.W.nsIn K mainGlobals "bits_of" = some (some (.ref a_bits_of)))
    (hl_bits_of : K.lookup a_bits_of = some ⟨oc_bits_of, od_bits_of, .func (PySem.W.fnOf "bits_of" "bits_of" (defArgs s_bits_of) (defBody s_bits_of) (defScope s_bits_of) .none kV_bits_of dc_bits_of pm_bits_of an_bits_of cd_bits_of ct_bits_of), sl_bits_of⟩)
    (hc_bits_of : PySem.W.codeIn K cd_bits_of "bits_of" = true)
    (hk_bits_of : PySem.W.keepIn K (.ref a_bits_of) = true)
    (ha_raised : PySem.W.nsIn K mainGlobals "raised" = some (some (.ref a_raised)))
    (hl_raised : K.lookup a_raised = some ⟨oc_raised, od_raised, .func (PySem.W.fnOf "raised" "raised" (defArgs s_raised) (defBody s_raised) (defScope s_raised) .none kV_raised dc_raised pm_raised an_raised cd_raised ct_raised), sl_raised⟩)
    (hc_raised : PySem.W.codeIn K cd_raised "raised" = true)
    (hk_raised : PySem.W.keepIn K (.ref a_raised) = true)
    (ha_grown : PySem.W.nsIn K mainGlobals "grown" = some (some (.ref a_grown)))
    (hl_grown : K.lookup a_grown = some ⟨oc_grown, od_grown, .func (PySem.W.fnOf "grown" "grown" (defArgs s_grown) (defBody s_grown) (defScope s_grown) .none kV_grown dc_grown pm_grown an_grown cd_grown ct_grown), sl_grown⟩)
    (hc_grown : PySem.W.codeIn K cd_grown "grown" = true)
    (hk_grown : PySem.W.keepIn K (.ref a_grown) = true)
    (ha_great : PySem.W.nsIn K mainGlobals "great" = some (some (.ref a_great)))
    (hl_great : K.lookup a_great = some ⟨oc_great, od_great, .func (PySem.W.fnOf "great" "great" (defArgs s_great) (defBody s_great) (defScope s_great) .none kV_great dc_great pm_great an_great cd_great ct_great), sl_great⟩)
    (hc_great : PySem.W.codeIn K cd_great "great" = true)
    (hk_great : PySem.W.keepIn K (.ref a_great) = true)
    (ha_is_above : PySem.W.nsIn K mainGlobals "is_above" = some (some (.ref a_is_above)))
    (hl_is_above : K.lookup a_is_above = some ⟨oc_is_above, od_is_above, .func (PySem.W.fnOf "is_above" "is_above" (defArgs s_is_above) (defBody s_is_above) (defScope s_is_above) .none kV_is_above dc_is_above pm_is_above an_is_above cd_is_above ct_is_above), sl_is_above⟩)
    (hc_is_above : PySem.W.codeIn K cd_is_above "is_above" = true)
    (hk_is_above : PySem.W.keepIn K (.ref a_is_above) = true)
    (ha_is_discriminant : PySem.W.nsIn K mainGlobals "is_discriminant" = some (some (.ref a_is_discriminant)))
    (hl_is_discriminant : K.lookup a_is_discriminant = some ⟨oc_is_discriminant, od_is_discriminant, .func (PySem.W.fnOf "is_discriminant" "is_discriminant" (defArgs s_is_discriminant) (defBody s_is_discriminant) (defScope s_is_discriminant) .none kV_is_discriminant dc_is_discriminant pm_is_discriminant an_is_discriminant cd_is_discriminant ct_is_discriminant), sl_is_discriminant⟩)
    (hc_is_discriminant : PySem.W.codeIn K cd_is_discriminant "is_discriminant" = true)
    (hk_is_discriminant : PySem.W.keepIn K (.ref a_is_discriminant) = true)
    (ha_is_free : PySem.W.nsIn K mainGlobals "is_free" = some (some (.ref a_is_free)))
    (hl_is_free : K.lookup a_is_free = some ⟨oc_is_free, od_is_free, .func (PySem.W.fnOf "is_free" "is_free" (defArgs s_is_free) (defBody s_is_free) (defScope s_is_free) .none kV_is_free dc_is_free pm_is_free an_is_free cd_is_free ct_is_free), sl_is_free⟩)
    (hc_is_free : PySem.W.codeIn K cd_is_free "is_free" = true)
    (hk_is_free : PySem.W.keepIn K (.ref a_is_free) = true)
    (ha_is_unit : PySem.W.nsIn K mainGlobals "is_unit" = some (some (.ref a_is_unit)))
    (hl_is_unit : K.lookup a_is_unit = some ⟨oc_is_unit, od_is_unit, .func (PySem.W.fnOf "is_unit" "is_unit" (defArgs s_is_unit) (defBody s_is_unit) (defScope s_is_unit) .none kV_is_unit dc_is_unit pm_is_unit an_is_unit cd_is_unit ct_is_unit), sl_is_unit⟩)
    (hc_is_unit : PySem.W.codeIn K cd_is_unit "is_unit" = true)
    (hk_is_unit : PySem.W.keepIn K (.ref a_is_unit) = true)
    (ha_unit_norm : PySem.W.nsIn K mainGlobals "unit_norm" = some (some (.ref a_unit_norm)))
    (hl_unit_norm : K.lookup a_unit_norm = some ⟨oc_unit_norm, od_unit_norm, .func (PySem.W.fnOf "unit_norm" "unit_norm" (defArgs s_unit_norm) (defBody s_unit_norm) (defScope s_unit_norm) .none kV_unit_norm dc_unit_norm pm_unit_norm an_unit_norm cd_unit_norm ct_unit_norm), sl_unit_norm⟩)
    (hc_unit_norm : PySem.W.codeIn K cd_unit_norm "unit_norm" = true)
    (hk_unit_norm : PySem.W.keepIn K (.ref a_unit_norm) = true)
    (ha_unit_product : PySem.W.nsIn K mainGlobals "unit_product" = some (some (.ref a_unit_product)))
    (hl_unit_product : K.lookup a_unit_product = some ⟨oc_unit_product, od_unit_product, .func (PySem.W.fnOf "unit_product" "unit_product" (defArgs s_unit_product) (defBody s_unit_product) (defScope s_unit_product) .none kV_unit_product dc_unit_product pm_unit_product an_unit_product cd_unit_product ct_unit_product), sl_unit_product⟩)
    (hc_unit_product : PySem.W.codeIn K cd_unit_product "unit_product" = true)
    (hk_unit_product : PySem.W.keepIn K (.ref a_unit_product) = true)
    (ha_unit_back : PySem.W.nsIn K mainGlobals "unit_back" = some (some (.ref a_unit_back)))
    (hl_unit_back : K.lookup a_unit_back = some ⟨oc_unit_back, od_unit_back, .func (PySem.W.fnOf "unit_back" "unit_back" (defArgs s_unit_back) (defBody s_unit_back) (defScope s_unit_back) .none kV_unit_back dc_unit_back pm_unit_back an_unit_back cd_unit_back ct_unit_back), sl_unit_back⟩)
    (hc_unit_back : PySem.W.codeIn K cd_unit_back "unit_back" = true)
    (hk_unit_back : PySem.W.keepIn K (.ref a_unit_back) = true)
    (ha_unit_opposite : PySem.W.nsIn K mainGlobals "unit_opposite" = some (some (.ref a_unit_opposite)))
    (hl_unit_opposite : K.lookup a_unit_opposite = some ⟨oc_unit_opposite, od_unit_opposite, .func (PySem.W.fnOf "unit_opposite" "unit_opposite" (defArgs s_unit_opposite) (defBody s_unit_opposite) (defScope s_unit_opposite) .none kV_unit_opposite dc_unit_opposite pm_unit_opposite an_unit_opposite cd_unit_opposite ct_unit_opposite), sl_unit_opposite⟩)
    (hc_unit_opposite : PySem.W.codeIn K cd_unit_opposite "unit_opposite" = true)
    (hk_unit_opposite : PySem.W.keepIn K (.ref a_unit_opposite) = true)
    (ha_unit_power : PySem.W.nsIn K mainGlobals "unit_power" = some (some (.ref a_unit_power)))
    (hl_unit_power : K.lookup a_unit_power = some ⟨oc_unit_power, od_unit_power, .func (PySem.W.fnOf "unit_power" "unit_power" (defArgs s_unit_power) (defBody s_unit_power) (defScope s_unit_power) .none kV_unit_power dc_unit_power pm_unit_power an_unit_power cd_unit_power ct_unit_power), sl_unit_power⟩)
    (hc_unit_power : PySem.W.codeIn K cd_unit_power "unit_power" = true)
    (hk_unit_power : PySem.W.keepIn K (.ref a_unit_power) = true)
    (ha_is_above_one : PySem.W.nsIn K mainGlobals "is_above_one" = some (some (.ref a_is_above_one)))
    (hl_is_above_one : K.lookup a_is_above_one = some ⟨oc_is_above_one, od_is_above_one, .func (PySem.W.fnOf "is_above_one" "is_above_one" (defArgs s_is_above_one) (defBody s_is_above_one) (defScope s_is_above_one) .none kV_is_above_one dc_is_above_one pm_is_above_one an_is_above_one cd_is_above_one ct_is_above_one), sl_is_above_one⟩)
    (hc_is_above_one : PySem.W.codeIn K cd_is_above_one "is_above_one" = true)
    (hk_is_above_one : PySem.W.keepIn K (.ref a_is_above_one) = true)
    (ha_law_cup : PySem.W.nsIn K mainGlobals "_law_cup" = some (some (.ref a_law_cup)))
    (hl_law_cup : K.lookup a_law_cup = some ⟨oc_law_cup, od_law_cup, .func (PySem.W.fnOf "_law_cup" "_law_cup" (defArgs s_law_cup) (defBody s_law_cup) (defScope s_law_cup) .none kV_law_cup dc_law_cup pm_law_cup an_law_cup cd_law_cup ct_law_cup), sl_law_cup⟩)
    (hc_law_cup : PySem.W.codeIn K cd_law_cup "_law_cup" = true)
    (hk_law_cup : PySem.W.keepIn K (.ref a_law_cup) = true)
    (ha_law_roll : PySem.W.nsIn K mainGlobals "_law_roll" = some (some (.ref a_law_roll)))
    (hl_law_roll : K.lookup a_law_roll = some ⟨oc_law_roll, od_law_roll, .func (PySem.W.fnOf "_law_roll" "_law_roll" (defArgs s_law_roll) (defBody s_law_roll) (defScope s_law_roll) .none kV_law_roll dc_law_roll pm_law_roll an_law_roll cd_law_roll ct_law_roll), sl_law_roll⟩)
    (hc_law_roll : PySem.W.codeIn K cd_law_roll "_law_roll" = true)
    (hk_law_roll : PySem.W.keepIn K (.ref a_law_roll) = true)
    (ha_law_some : PySem.W.nsIn K mainGlobals "_law_some" = some (some (.ref a_law_some)))
    (hl_law_some : K.lookup a_law_some = some ⟨oc_law_some, od_law_some, .func (PySem.W.fnOf "_law_some" "_law_some" (defArgs s_law_some) (defBody s_law_some) (defScope s_law_some) .none kV_law_some dc_law_some pm_law_some an_law_some cd_law_some ct_law_some), sl_law_some⟩)
    (hc_law_some : PySem.W.codeIn K cd_law_some "_law_some" = true)
    (hk_law_some : PySem.W.keepIn K (.ref a_law_some) = true)
    (ha_law_sort : PySem.W.nsIn K mainGlobals "_law_sort" = some (some (.ref a_law_sort)))
    (hl_law_sort : K.lookup a_law_sort = some ⟨oc_law_sort, od_law_sort, .func (PySem.W.fnOf "_law_sort" "_law_sort" (defArgs s_law_sort) (defBody s_law_sort) (defScope s_law_sort) .none kV_law_sort dc_law_sort pm_law_sort an_law_sort cd_law_sort ct_law_sort), sl_law_sort⟩)
    (hc_law_sort : PySem.W.codeIn K cd_law_sort "_law_sort" = true)
    (hk_law_sort : PySem.W.keepIn K (.ref a_law_sort) = true)
    (ha_law_like : PySem.W.nsIn K mainGlobals "_law_like" = some (some (.ref a_law_like)))
    (hl_law_like : K.lookup a_law_like = some ⟨oc_law_like, od_law_like, .func (PySem.W.fnOf "_law_like" "_law_like" (defArgs s_law_like) (defBody s_law_like) (defScope s_law_like) .none kV_law_like dc_law_like pm_law_like an_law_like cd_law_like ct_law_like), sl_law_like⟩)
    (hc_law_like : PySem.W.codeIn K cd_law_like "_law_like" = true)
    (hk_law_like : PySem.W.keepIn K (.ref a_law_like) = true)
    (ha_law_root : PySem.W.nsIn K mainGlobals "_law_root" = some (some (.ref a_law_root)))
    (hl_law_root : K.lookup a_law_root = some ⟨oc_law_root, od_law_root, .func (PySem.W.fnOf "_law_root" "_law_root" (defArgs s_law_root) (defBody s_law_root) (defScope s_law_root) .none kV_law_root dc_law_root pm_law_root an_law_root cd_law_root ct_law_root), sl_law_root⟩)
    (hc_law_root : PySem.W.codeIn K cd_law_root "_law_root" = true)
    (hk_law_root : PySem.W.keepIn K (.ref a_law_root) = true)
    (ha_law_is_unit : PySem.W.nsIn K mainGlobals "_law_is_unit" = some (some (.ref a_law_is_unit)))
    (hl_law_is_unit : K.lookup a_law_is_unit = some ⟨oc_law_is_unit, od_law_is_unit, .func (PySem.W.fnOf "_law_is_unit" "_law_is_unit" (defArgs s_law_is_unit) (defBody s_law_is_unit) (defScope s_law_is_unit) .none kV_law_is_unit dc_law_is_unit pm_law_is_unit an_law_is_unit cd_law_is_unit ct_law_is_unit), sl_law_is_unit⟩)
    (hc_law_is_unit : PySem.W.codeIn K cd_law_is_unit "_law_is_unit" = true)
    (hk_law_is_unit : PySem.W.keepIn K (.ref a_law_is_unit) = true)
    (ha_law_norm : PySem.W.nsIn K mainGlobals "_law_norm" = some (some (.ref a_law_norm)))
    (hl_law_norm : K.lookup a_law_norm = some ⟨oc_law_norm, od_law_norm, .func (PySem.W.fnOf "_law_norm" "_law_norm" (defArgs s_law_norm) (defBody s_law_norm) (defScope s_law_norm) .none kV_law_norm dc_law_norm pm_law_norm an_law_norm cd_law_norm ct_law_norm), sl_law_norm⟩)
    (hc_law_norm : PySem.W.codeIn K cd_law_norm "_law_norm" = true)
    (hk_law_norm : PySem.W.keepIn K (.ref a_law_norm) = true)
    (ha_law_times : PySem.W.nsIn K mainGlobals "_law_times" = some (some (.ref a_law_times)))
    (hl_law_times : K.lookup a_law_times = some ⟨oc_law_times, od_law_times, .func (PySem.W.fnOf "_law_times" "_law_times" (defArgs s_law_times) (defBody s_law_times) (defScope s_law_times) .none kV_law_times dc_law_times pm_law_times an_law_times cd_law_times ct_law_times), sl_law_times⟩)
    (hc_law_times : PySem.W.codeIn K cd_law_times "_law_times" = true)
    (hk_law_times : PySem.W.keepIn K (.ref a_law_times) = true)
    (ha_law_power : PySem.W.nsIn K mainGlobals "_law_power" = some (some (.ref a_law_power)))
    (hl_law_power : K.lookup a_law_power = some ⟨oc_law_power, od_law_power, .func (PySem.W.fnOf "_law_power" "_law_power" (defArgs s_law_power) (defBody s_law_power) (defScope s_law_power) .none kV_law_power dc_law_power pm_law_power an_law_power cd_law_power ct_law_power), sl_law_power⟩)
    (hc_law_power : PySem.W.codeIn K cd_law_power "_law_power" = true)
    (hk_law_power : PySem.W.keepIn K (.ref a_law_power) = true)
    (ha_law_first : PySem.W.nsIn K mainGlobals "_law_first" = some (some (.ref a_law_first)))
    (hl_law_first : K.lookup a_law_first = some ⟨oc_law_first, od_law_first, .func (PySem.W.fnOf "_law_first" "_law_first" (defArgs s_law_first) (defBody s_law_first) (defScope s_law_first) .none kV_law_first dc_law_first pm_law_first an_law_first cd_law_first ct_law_first), sl_law_first⟩)
    (hc_law_first : PySem.W.codeIn K cd_law_first "_law_first" = true)
    (hk_law_first : PySem.W.keepIn K (.ref a_law_first) = true)
    (ha_law_error : PySem.W.nsIn K mainGlobals "_law_error" = some (some (.ref a_law_error)))
    (hl_law_error : K.lookup a_law_error = some ⟨oc_law_error, od_law_error, .func (PySem.W.fnOf "_law_error" "_law_error" (defArgs s_law_error) (defBody s_law_error) (defScope s_law_error) .none kV_law_error dc_law_error pm_law_error an_law_error cd_law_error ct_law_error), sl_law_error⟩)
    (hc_law_error : PySem.W.codeIn K cd_law_error "_law_error" = true)
    (hk_law_error : PySem.W.keepIn K (.ref a_law_error) = true)
    (ha_law_number : PySem.W.nsIn K mainGlobals "_law_number" = some (some (.ref a_law_number)))
    (hl_law_number : K.lookup a_law_number = some ⟨oc_law_number, od_law_number, .func (PySem.W.fnOf "_law_number" "_law_number" (defArgs s_law_number) (defBody s_law_number) (defScope s_law_number) .none kV_law_number dc_law_number pm_law_number an_law_number cd_law_number ct_law_number), sl_law_number⟩)
    (hc_law_number : PySem.W.codeIn K cd_law_number "_law_number" = true)
    (hk_law_number : PySem.W.keepIn K (.ref a_law_number) = true)
    (ha_law_unit : PySem.W.nsIn K mainGlobals "_law_unit" = some (some (.ref a_law_unit)))
    (hl_law_unit : K.lookup a_law_unit = some ⟨oc_law_unit, od_law_unit, .func (PySem.W.fnOf "_law_unit" "_law_unit" (defArgs s_law_unit) (defBody s_law_unit) (defScope s_law_unit) .none kV_law_unit dc_law_unit pm_law_unit an_law_unit cd_law_unit ct_law_unit), sl_law_unit⟩)
    (hc_law_unit : PySem.W.codeIn K cd_law_unit "_law_unit" = true)
    (hk_law_unit : PySem.W.keepIn K (.ref a_law_unit) = true)
    (ha_law_is_free : PySem.W.nsIn K mainGlobals "_law_is_free" = some (some (.ref a_law_is_free)))
    (hl_law_is_free : K.lookup a_law_is_free = some ⟨oc_law_is_free, od_law_is_free, .func (PySem.W.fnOf "_law_is_free" "_law_is_free" (defArgs s_law_is_free) (defBody s_law_is_free) (defScope s_law_is_free) .none kV_law_is_free dc_law_is_free pm_law_is_free an_law_is_free cd_law_is_free ct_law_is_free), sl_law_is_free⟩)
    (hc_law_is_free : PySem.W.codeIn K cd_law_is_free "_law_is_free" = true)
    (hk_law_is_free : PySem.W.keepIn K (.ref a_law_is_free) = true)
    (ha_law_near : PySem.W.nsIn K mainGlobals "_law_near" = some (some (.ref a_law_near)))
    (hl_law_near : K.lookup a_law_near = some ⟨oc_law_near, od_law_near, .func (PySem.W.fnOf "_law_near" "_law_near" (defArgs s_law_near) (defBody s_law_near) (defScope s_law_near) .none kV_law_near dc_law_near pm_law_near an_law_near cd_law_near ct_law_near), sl_law_near⟩)
    (hc_law_near : PySem.W.codeIn K cd_law_near "_law_near" = true)
    (hk_law_near : PySem.W.keepIn K (.ref a_law_near) = true)
    (ha_law_right : PySem.W.nsIn K mainGlobals "_law_right" = some (some (.ref a_law_right)))
    (hl_law_right : K.lookup a_law_right = some ⟨oc_law_right, od_law_right, .func (PySem.W.fnOf "_law_right" "_law_right" (defArgs s_law_right) (defBody s_law_right) (defScope s_law_right) .none kV_law_right dc_law_right pm_law_right an_law_right (.ref c_law_right) ct_law_right), sl_law_right⟩)
    (hc_law_right : PySem.W.codeIn K (.ref c_law_right) "_law_right" = true)
    (hk_law_right : PySem.W.keepIn K (.ref a_law_right) = true)
    (ht_law_right : h.get? t_law_right = some { cls := .none, data := .fields #[] } ∧ PySem.W.codeHdIn K c_law_right t_law_right = true)
    (hn_law_right : K.lookup t_law_right = none)
    (ha_law_ten : PySem.W.nsIn K mainGlobals "_law_ten" = some (some (.ref a_law_ten)))
    (hl_law_ten : K.lookup a_law_ten = some ⟨oc_law_ten, od_law_ten, .func (PySem.W.fnOf "_law_ten" "_law_ten" (defArgs s_law_ten) (defBody s_law_ten) (defScope s_law_ten) .none kV_law_ten dc_law_ten pm_law_ten an_law_ten cd_law_ten ct_law_ten), sl_law_ten⟩)
    (hc_law_ten : PySem.W.codeIn K cd_law_ten "_law_ten" = true)
    (hk_law_ten : PySem.W.keepIn K (.ref a_law_ten) = true)
    (ha_law_digits_right : PySem.W.nsIn K mainGlobals "_law_digits_right" = some (some (.ref a_law_digits_right)))
    (hl_law_digits_right : K.lookup a_law_digits_right = some ⟨oc_law_digits_right, od_law_digits_right, .func (PySem.W.fnOf "_law_digits_right" "_law_digits_right" (defArgs s_law_digits_right) (defBody s_law_digits_right) (defScope s_law_digits_right) .none kV_law_digits_right dc_law_digits_right pm_law_digits_right an_law_digits_right (.ref c_law_digits_right) ct_law_digits_right), sl_law_digits_right⟩)
    (hc_law_digits_right : PySem.W.codeIn K (.ref c_law_digits_right) "_law_digits_right" = true)
    (hk_law_digits_right : PySem.W.keepIn K (.ref a_law_digits_right) = true)
    (ht_law_digits_right : h.get? t_law_digits_right = some { cls := .none, data := .fields #[] } ∧ PySem.W.codeHdIn K c_law_digits_right t_law_digits_right = true)
    (hn_law_digits_right : K.lookup t_law_digits_right = none)
    (ha_law_errors_right : PySem.W.nsIn K mainGlobals "_law_errors_right" = some (some (.ref a_law_errors_right)))
    (hl_law_errors_right : K.lookup a_law_errors_right = some ⟨oc_law_errors_right, od_law_errors_right, .func (PySem.W.fnOf "_law_errors_right" "_law_errors_right" (defArgs s_law_errors_right) (defBody s_law_errors_right) (defScope s_law_errors_right) .none kV_law_errors_right dc_law_errors_right pm_law_errors_right an_law_errors_right (.ref c_law_errors_right) ct_law_errors_right), sl_law_errors_right⟩)
    (hc_law_errors_right : PySem.W.codeIn K (.ref c_law_errors_right) "_law_errors_right" = true)
    (hk_law_errors_right : PySem.W.keepIn K (.ref a_law_errors_right) = true)
    (ht_law_errors_right : h.get? t_law_errors_right = some { cls := .none, data := .fields #[] } ∧ PySem.W.codeHdIn K c_law_errors_right t_law_errors_right = true)
    (hn_law_errors_right : K.lookup t_law_errors_right = none)
    (ha_law : PySem.W.nsIn K mainGlobals "law" = some (some (.ref a_law)))
    (hl_law : K.lookup a_law = some ⟨oc_law, od_law, .func (PySem.W.fnOf "law" "law" (defArgs s_law) (defBody s_law) (defScope s_law) .none kV_law dc_law pm_law an_law cd_law ct_law), sl_law⟩)
    (hc_law : PySem.W.codeIn K cd_law "law" = true)
    (hk_law : PySem.W.keepIn K (.ref a_law) = true)
    (hb_abs : PySem.W.nsIn K mainGlobals "abs" = some none)
    (hb_all : PySem.W.nsIn K mainGlobals "all" = some none)
    (hb_bool : PySem.W.nsIn K mainGlobals "bool" = some none)
    (hb_int : PySem.W.nsIn K mainGlobals "int" = some none)
    (hb_isinstance : PySem.W.nsIn K mainGlobals "isinstance" = some none)
    (hb_len : PySem.W.nsIn K mainGlobals "len" = some none)
    (hb_list : PySem.W.nsIn K mainGlobals "list" = some none)
    (hb_range : PySem.W.nsIn K mainGlobals "range" = some none)
    (hb_str : PySem.W.nsIn K mainGlobals "str" = some none)
    (hb_tuple : PySem.W.nsIn K mainGlobals "tuple" = some none)
    (hb_zip : PySem.W.nsIn K mainGlobals "zip" = some none)
    (hv_MOST : PySem.W.nsIn K mainGlobals "MOST" = some (some (.int (10000000) tk_MOST)))
    (hv_DIGITS : PySem.W.nsIn K mainGlobals "DIGITS" = some (some (.int (2000) tk_DIGITS)))
    (hv_OFTEN : PySem.W.nsIn K mainGlobals "OFTEN" = some (some (.int (10000) tk_OFTEN)))
    (hv_ONE : PySem.W.nsIn K mainGlobals "ONE" = some (some v_ONE))
    (hkt_ONE : ktB K 6 v_ONE (.tup [(.int (2)), (.int (0))]) = true)
    (hg_WholeError : PySem.W.nsIn K mainGlobals "WholeError" = some (some (.ref C_WholeError)))
    (hx_WholeError : PySem.W.excIn K C_WholeError [.type "ValueError", .type "Exception", .type "BaseException", .type "object"] "ValueError.__new__" = true)
    (hK_WholeError : PySem.W.keepIn K (.ref C_WholeError) = true)
    (hB_WholeError : PySem.W.subIn K (.ref C_WholeError) (.type "BaseException") = some true)
    (hT_WholeError : PySem.W.typeIn K (.ref C_WholeError) = some (.type "type"))
    (hI_WholeError : PySem.W.isClsIn K C_WholeError = true)
    (e1_WholeError : PySem.W.findIn K (.ref C_WholeError) "__getattribute__" = some (some (.builtin "BaseException.__getattribute__")))
    (e2_WholeError : PySem.W.findIn K (.ref C_WholeError) "__getattr__" = some none)
    (e3_WholeError : PySem.W.hasDictIn K C_WholeError = true)
    (e4_WholeError : PySem.W.findIn K (.ref C_WholeError) "__class__" = some (some (.builtin "object.__class__")))
    (e5_WholeError : PySem.W.mroIn K C_WholeError (.type "object") = some true)
    (hg_InvalidNumber : PySem.W.nsIn K mainGlobals "InvalidNumber" = some (some (.ref C_InvalidNumber)))
    (hx_InvalidNumber : PySem.W.excIn K C_InvalidNumber [.type "ValueError", .type "Exception", .type "BaseException", .type "object"] "ValueError.__new__" = true)
    (hK_InvalidNumber : PySem.W.keepIn K (.ref C_InvalidNumber) = true)
    (hB_InvalidNumber : PySem.W.subIn K (.ref C_InvalidNumber) (.type "BaseException") = some true)
    (hT_InvalidNumber : PySem.W.typeIn K (.ref C_InvalidNumber) = some (.type "type"))
    (hI_InvalidNumber : PySem.W.isClsIn K C_InvalidNumber = true)
    (e1_InvalidNumber : PySem.W.findIn K (.ref C_InvalidNumber) "__getattribute__" = some (some (.builtin "BaseException.__getattribute__")))
    (e2_InvalidNumber : PySem.W.findIn K (.ref C_InvalidNumber) "__getattr__" = some none)
    (e3_InvalidNumber : PySem.W.hasDictIn K C_InvalidNumber = true)
    (e4_InvalidNumber : PySem.W.findIn K (.ref C_InvalidNumber) "__class__" = some (some (.builtin "object.__class__")))
    (e5_InvalidNumber : PySem.W.mroIn K C_InvalidNumber (.type "object") = some true)
    (hg_InvalidUnit : PySem.W.nsIn K mainGlobals "InvalidUnit" = some (some (.ref C_InvalidUnit)))
    (hx_InvalidUnit : PySem.W.excIn K C_InvalidUnit [.type "ValueError", .type "Exception", .type "BaseException", .type "object"] "ValueError.__new__" = true)
    (hK_InvalidUnit : PySem.W.keepIn K (.ref C_InvalidUnit) = true)
    (hB_InvalidUnit : PySem.W.subIn K (.ref C_InvalidUnit) (.type "BaseException") = some true)
    (hT_InvalidUnit : PySem.W.typeIn K (.ref C_InvalidUnit) = some (.type "type"))
    (hI_InvalidUnit : PySem.W.isClsIn K C_InvalidUnit = true)
    (e1_InvalidUnit : PySem.W.findIn K (.ref C_InvalidUnit) "__getattribute__" = some (some (.builtin "BaseException.__getattribute__")))
    (e2_InvalidUnit : PySem.W.findIn K (.ref C_InvalidUnit) "__getattr__" = some none)
    (e3_InvalidUnit : PySem.W.hasDictIn K C_InvalidUnit = true)
    (e4_InvalidUnit : PySem.W.findIn K (.ref C_InvalidUnit) "__class__" = some (some (.builtin "object.__class__")))
    (e5_InvalidUnit : PySem.W.mroIn K C_InvalidUnit (.type "object") = some true)
    (hg_NotNow : PySem.W.nsIn K mainGlobals "NotNow" = some (some (.ref C_NotNow)))
    (hx_NotNow : PySem.W.excIn K C_NotNow [.type "ValueError", .type "Exception", .type "BaseException", .type "object"] "ValueError.__new__" = true)
    (hK_NotNow : PySem.W.keepIn K (.ref C_NotNow) = true)
    (hB_NotNow : PySem.W.subIn K (.ref C_NotNow) (.type "BaseException") = some true)
    (hT_NotNow : PySem.W.typeIn K (.ref C_NotNow) = some (.type "type"))
    (hI_NotNow : PySem.W.isClsIn K C_NotNow = true)
    (e1_NotNow : PySem.W.findIn K (.ref C_NotNow) "__getattribute__" = some (some (.builtin "BaseException.__getattribute__")))
    (e2_NotNow : PySem.W.findIn K (.ref C_NotNow) "__getattr__" = some none)
    (e3_NotNow : PySem.W.hasDictIn K C_NotNow = true)
    (e4_NotNow : PySem.W.findIn K (.ref C_NotNow) "__class__" = some (some (.builtin "object.__class__")))
    (e5_NotNow : PySem.W.mroIn K C_NotNow (.type "object") = some true)
    (hg_TooMany : PySem.W.nsIn K mainGlobals "TooMany" = some (some (.ref C_TooMany)))
    (hK_TooMany : PySem.W.keepIn K (.ref C_TooMany) = true)
    (hB_TooMany : PySem.W.subIn K (.ref C_TooMany) (.type "BaseException") = some true)
    (hT_TooMany : PySem.W.typeIn K (.ref C_TooMany) = some (.type "type"))
    (hI_TooMany : PySem.W.isClsIn K C_TooMany = true)
    (e1_TooMany : PySem.W.findIn K (.ref C_TooMany) "__getattribute__" = some (some (.builtin "BaseException.__getattribute__")))
    (e2_TooMany : PySem.W.findIn K (.ref C_TooMany) "__getattr__" = some none)
    (e3_TooMany : PySem.W.hasDictIn K C_TooMany = true)
    (e4_TooMany : PySem.W.findIn K (.ref C_TooMany) "__class__" = some (some (.builtin "object.__class__")))
    (e5_TooMany : PySem.W.mroIn K C_TooMany (.type "object") = some true)
    (e6 : PySem.W.specialIn K (.builtin "object.__class__") "__get__" = some (some (.builtin "getset_descriptor.__get__")))
    (e7 : PySem.W.takesIn K (.builtin "object.__class__") = some true)
    (hs_0_0 : PySem.W.subIn K (.ref C_WholeError) (.ref C_WholeError) = some true)
    (hs_0_1 : PySem.W.subIn K (.ref C_WholeError) (.ref C_InvalidNumber) = some false)
    (hs_0_2 : PySem.W.subIn K (.ref C_WholeError) (.ref C_InvalidUnit) = some false)
    (hs_0_3 : PySem.W.subIn K (.ref C_WholeError) (.ref C_NotNow) = some false)
    (hs_0_4 : PySem.W.subIn K (.ref C_WholeError) (.ref C_TooMany) = some false)
    (hs_1_0 : PySem.W.subIn K (.ref C_InvalidNumber) (.ref C_WholeError) = some true)
    (hs_1_1 : PySem.W.subIn K (.ref C_InvalidNumber) (.ref C_InvalidNumber) = some true)
    (hs_1_2 : PySem.W.subIn K (.ref C_InvalidNumber) (.ref C_InvalidUnit) = some false)
    (hs_1_3 : PySem.W.subIn K (.ref C_InvalidNumber) (.ref C_NotNow) = some false)
    (hs_1_4 : PySem.W.subIn K (.ref C_InvalidNumber) (.ref C_TooMany) = some false)
    (hs_2_0 : PySem.W.subIn K (.ref C_InvalidUnit) (.ref C_WholeError) = some true)
    (hs_2_1 : PySem.W.subIn K (.ref C_InvalidUnit) (.ref C_InvalidNumber) = some false)
    (hs_2_2 : PySem.W.subIn K (.ref C_InvalidUnit) (.ref C_InvalidUnit) = some true)
    (hs_2_3 : PySem.W.subIn K (.ref C_InvalidUnit) (.ref C_NotNow) = some false)
    (hs_2_4 : PySem.W.subIn K (.ref C_InvalidUnit) (.ref C_TooMany) = some false)
    (hs_3_0 : PySem.W.subIn K (.ref C_NotNow) (.ref C_WholeError) = some true)
    (hs_3_1 : PySem.W.subIn K (.ref C_NotNow) (.ref C_InvalidNumber) = some false)
    (hs_3_2 : PySem.W.subIn K (.ref C_NotNow) (.ref C_InvalidUnit) = some false)
    (hs_3_3 : PySem.W.subIn K (.ref C_NotNow) (.ref C_NotNow) = some true)
    (hs_3_4 : PySem.W.subIn K (.ref C_NotNow) (.ref C_TooMany) = some false)
    (hs_4_0 : PySem.W.subIn K (.ref C_TooMany) (.ref C_WholeError) = some true)
    (hs_4_1 : PySem.W.subIn K (.ref C_TooMany) (.ref C_InvalidNumber) = some false)
    (hs_4_2 : PySem.W.subIn K (.ref C_TooMany) (.ref C_InvalidUnit) = some false)
    (hs_4_3 : PySem.W.subIn K (.ref C_TooMany) (.ref C_NotNow) = some false)
    (hs_4_4 : PySem.W.subIn K (.ref C_TooMany) (.ref C_TooMany) = some true)
    (hL_f : PySem.W.findIn K (.ref C_TooMany) "__init__" = some (some (.ref fI_L)))
    (hL_t : PySem.W.typeIn K (.ref fI_L) = some (.type "function"))
    (hL_l : K.lookup fI_L = some ⟨oc_L, od_L, .func (PySem.W.fnX "__init__" "TooMany.__init__" (defArgs s_lim__) (defBody s_lim__) (defScope s_lim__) [("__class__", cc_L)] .none kV_L dc_L pm_L an_L (.ref cda_L) ct_L), sl_L⟩)
    (hL_b : defBody s_lim__ = LimX.limBody q0_L q1_L q2_L q3_L q4_L q5_L q6_L q7_L q8_L q9_L)
    (hL_c : PySem.W.codeIn K (.ref cda_L) "TooMany.__init__" = true)
    (hL_d : K.lookup cda_L = some ⟨ccl_L, cdd_L, .fields vs_L, ccs_L⟩)
    (hL_v : vs_L[2]? = some (.str file_L tf_L))
    (hL_e : (l.prog.main.file == file_L) = true)
    (hL_x : K.lookup cc_L = some ⟨cl_L, cld_L, .cell (some (.ref C_TooMany)), csl_L⟩)
    (hL_m : PySem.W.mroIn K C_TooMany (.ref C_TooMany) = some true)
    (hL_s : PySem.W.ks_superIn K C_TooMany C_TooMany "__init__" = some (some (.builtin "ValueError.__init__")))
    (hL_B : PySem.W.subIn K (.ref C_TooMany) (.type "ValueError") = some true)
    (hL_a : PySem.W.nsIn K PySem.cStatics "thirdparty.any" = some none)
    (hL_n : PySem.W.findIn K (.ref C_TooMany) "limit" = some none)
    (hL_q : PySem.W.findIn K (.ref C_TooMany) "__setattr__" = some (some (.builtin "object.__setattr__")))
    (hL_o : K.lookup C_TooMany = some (excClassObj nm_L q_L C_TooMany N_L bs_L bm_L true sn_L sub_L ab_L col_L dd_L k0_L k1_L k2_L k3_L k5_L "ValueError.__new__"))
    (hL_r : PySem.HandSPX.refsVE bm_L = true)
    (hL_S : PySem.W.nsIn K mainGlobals "super" = some none)
    (hL_T : (l.prog.main.scope.names.lookup ("super" : Str)).isSome = false)
    (hL_ev : LimEv q0_L q1_L q2_L q3_L q4_L)
    (hz : ([t_law_right, t_law_digits_right, t_law_errors_right] : List Addr).Nodup) : LamX.LawAtS l w K (L2N.CX l.prog w) 12 63 "script" mg fa h := by
  have e := hfa.symm.trans (PySem.W.mg_of KX NS ha_law)
  cases e
  have F_law_right := And.intro (PySem.W.codeHd_of_K KX ht_law_right.2) ht_law_right.1
  have F_law_digits_right := And.intro (PySem.W.codeHd_of_K KX ht_law_digits_right.2) ht_law_digits_right.1
  have F_law_errors_right := And.intro (PySem.W.codeHd_of_K KX ht_law_errors_right.2) ht_law_errors_right.1
  have T : ∀ i : Addr × List Int, Top l.prog ⟨K, ([(t_law_right, ("_law_right" : Str) ++ ".<locals>." ++ "<lambda>"), (t_law_digits_right, ("_law_digits_right" : Str) ++ ".<locals>." ++ "<lambda>"), (t_law_errors_right, ("_law_errors_right" : Str) ++ ".<locals>." ++ "<lambda>")] : List (Addr × Str)), (fun n => match n with | 0 => C_WholeError | 1 => C_InvalidNumber | 2 => C_InvalidUnit | 3 => C_NotNow | _ => C_TooMany), (fun n => match n with | 24 => a_is_unit | 25 => a_unit_norm | 26 => a_unit_product | 27 => a_unit_back | 28 => a_unit_opposite | 29 => a_unit_power | 30 => a_is_above_one | _ => 0), i.1, i.2, 0, 4, 0⟩ mg ⟨a_is_whole, (PySem.W.fnOf "is_whole" "is_whole" (defArgs s_is_whole) (defBody s_is_whole) (defScope s_is_whole) .none kV_is_whole dc_is_whole pm_is_whole an_is_whole cd_is_whole ct_is_whole), a_need_whole, (PySem.W.fnOf "need_whole" "need_whole" (defArgs s_need_whole) (defBody s_need_whole) (defScope s_need_whole) .none kV_need_whole dc_need_whole pm_need_whole an_need_whole cd_need_whole ct_need_whole), a_is_tuple_of, (PySem.W.fnOf "is_tuple_of" "is_tuple_of" (defArgs s_is_tuple_of) (defBody s_is_tuple_of) (defScope s_is_tuple_of) .none kV_is_tuple_of dc_is_tuple_of pm_is_tuple_of an_is_tuple_of cd_is_tuple_of ct_is_tuple_of), a_is_integer, (PySem.W.fnOf "is_integer" "is_integer" (defArgs s_is_integer) (defBody s_is_integer) (defScope s_is_integer) .none kV_is_integer dc_is_integer pm_is_integer an_is_integer cd_is_integer ct_is_integer), a_root, (PySem.W.fnOf "root" "root" (defArgs s_root) (defBody s_root) (defScope s_root) .none kV_root dc_root pm_root an_root cd_root ct_root), a_is_square, (PySem.W.fnOf "is_square" "is_square" (defArgs s_is_square) (defBody s_is_square) (defScope s_is_square) .none kV_is_square dc_is_square pm_is_square an_is_square cd_is_square ct_is_square), a_is_number, (PySem.W.fnOf "is_number" "is_number" (defArgs s_is_number) (defBody s_is_number) (defScope s_is_number) .none kV_is_number dc_is_number pm_is_number an_is_number cd_is_number ct_is_number), a_need_number, (PySem.W.fnOf "need_number" "need_number" (defArgs s_need_number) (defBody s_need_number) (defScope s_need_number) .none kV_need_number dc_need_number pm_need_number an_need_number cd_need_number ct_need_number), a_is_free_in, (PySem.W.fnOf "is_free_in" "is_free_in" (defArgs s_is_free_in) (defBody s_is_free_in) (defScope s_is_free_in) .none kV_is_free_in dc_is_free_in pm_is_free_in an_is_free_in cd_is_free_in ct_is_free_in), a_need_free, (PySem.W.fnOf "need_free" "need_free" (defArgs s_need_free) (defBody s_need_free) (defScope s_need_free) .none kV_need_free dc_need_free pm_need_free an_need_free cd_need_free ct_need_free), a_size_of, (PySem.W.fnOf "size_of" "size_of" (defArgs s_size_of) (defBody s_size_of) (defScope s_size_of) .none kV_size_of dc_size_of pm_size_of an_size_of cd_size_of ct_size_of), a_fits, (PySem.W.fnOf "fits" "fits" (defArgs s_fits) (defBody s_fits) (defScope s_fits) .none kV_fits dc_fits pm_fits an_fits cd_fits ct_fits), a_need_unit, (PySem.W.fnOf "need_unit" "need_unit" (defArgs s_need_unit) (defBody s_need_unit) (defScope s_need_unit) .none kV_need_unit dc_need_unit pm_need_unit an_need_unit cd_need_unit ct_need_unit), a_norm_of, (PySem.W.fnOf "norm_of" "norm_of" (defArgs s_norm_of) (defBody s_norm_of) (defScope s_norm_of) .none kV_norm_of dc_norm_of pm_norm_of an_norm_of cd_norm_of ct_norm_of), a_times, (PySem.W.fnOf "times" "times" (defArgs s_times) (defBody s_times) (defScope s_times) .none kV_times dc_times pm_times an_times cd_times ct_times), a_back, (PySem.W.fnOf "back" "back" (defArgs s_back) (defBody s_back) (defScope s_back) .none kV_back dc_back pm_back an_back cd_back ct_back), a_opposite, (PySem.W.fnOf "opposite" "opposite" (defArgs s_opposite) (defBody s_opposite) (defScope s_opposite) .none kV_opposite dc_opposite pm_opposite an_opposite cd_opposite ct_opposite), a_bits_of, (PySem.W.fnOf "bits_of" "bits_of" (defArgs s_bits_of) (defBody s_bits_of) (defScope s_bits_of) .none kV_bits_of dc_bits_of pm_bits_of an_bits_of cd_bits_of ct_bits_of), a_raised, (PySem.W.fnOf "raised" "raised" (defArgs s_raised) (defBody s_raised) (defScope s_raised) .none kV_raised dc_raised pm_raised an_raised cd_raised ct_raised), a_grown, (PySem.W.fnOf "grown" "grown" (defArgs s_grown) (defBody s_grown) (defScope s_grown) .none kV_grown dc_grown pm_grown an_grown cd_grown ct_grown), a_great, (PySem.W.fnOf "great" "great" (defArgs s_great) (defBody s_great) (defScope s_great) .none kV_great dc_great pm_great an_great cd_great ct_great), a_is_above, (PySem.W.fnOf "is_above" "is_above" (defArgs s_is_above) (defBody s_is_above) (defScope s_is_above) .none kV_is_above dc_is_above pm_is_above an_is_above cd_is_above ct_is_above), a_is_discriminant, (PySem.W.fnOf "is_discriminant" "is_discriminant" (defArgs s_is_discriminant) (defBody s_is_discriminant) (defScope s_is_discriminant) .none kV_is_discriminant dc_is_discriminant pm_is_discriminant an_is_discriminant cd_is_discriminant ct_is_discriminant), a_is_free, (PySem.W.fnOf "is_free" "is_free" (defArgs s_is_free) (defBody s_is_free) (defScope s_is_free) .none kV_is_free dc_is_free pm_is_free an_is_free cd_is_free ct_is_free), a_is_unit, (PySem.W.fnOf "is_unit" "is_unit" (defArgs s_is_unit) (defBody s_is_unit) (defScope s_is_unit) .none kV_is_unit dc_is_unit pm_is_unit an_is_unit cd_is_unit ct_is_unit), a_unit_norm, (PySem.W.fnOf "unit_norm" "unit_norm" (defArgs s_unit_norm) (defBody s_unit_norm) (defScope s_unit_norm) .none kV_unit_norm dc_unit_norm pm_unit_norm an_unit_norm cd_unit_norm ct_unit_norm), a_unit_product, (PySem.W.fnOf "unit_product" "unit_product" (defArgs s_unit_product) (defBody s_unit_product) (defScope s_unit_product) .none kV_unit_product dc_unit_product pm_unit_product an_unit_product cd_unit_product ct_unit_product), a_unit_back, (PySem.W.fnOf "unit_back" "unit_back" (defArgs s_unit_back) (defBody s_unit_back) (defScope s_unit_back) .none kV_unit_back dc_unit_back pm_unit_back an_unit_back cd_unit_back ct_unit_back), a_unit_opposite, (PySem.W.fnOf "unit_opposite" "unit_opposite" (defArgs s_unit_opposite) (defBody s_unit_opposite) (defScope s_unit_opposite) .none kV_unit_opposite dc_unit_opposite pm_unit_opposite an_unit_opposite cd_unit_opposite ct_unit_opposite), a_unit_power, (PySem.W.fnOf "unit_power" "unit_power" (defArgs s_unit_power) (defBody s_unit_power) (defScope s_unit_power) .none kV_unit_power dc_unit_power pm_unit_power an_unit_power cd_unit_power ct_unit_power), a_is_above_one, (PySem.W.fnOf "is_above_one" "is_above_one" (defArgs s_is_above_one) (defBody s_is_above_one) (defScope s_is_above_one) .none kV_is_above_one dc_is_above_one pm_is_above_one an_is_above_one cd_is_above_one ct_is_above_one), a_law_cup, (PySem.W.fnOf "_law_cup" "_law_cup" (defArgs s_law_cup) (defBody s_law_cup) (defScope s_law_cup) .none kV_law_cup dc_law_cup pm_law_cup an_law_cup cd_law_cup ct_law_cup), a_law_roll, (PySem.W.fnOf "_law_roll" "_law_roll" (defArgs s_law_roll) (defBody s_law_roll) (defScope s_law_roll) .none kV_law_roll dc_law_roll pm_law_roll an_law_roll cd_law_roll ct_law_roll), a_law_some, (PySem.W.fnOf "_law_some" "_law_some" (defArgs s_law_some) (defBody s_law_some) (defScope s_law_some) .none kV_law_some dc_law_some pm_law_some an_law_some cd_law_some ct_law_some), a_law_sort, (PySem.W.fnOf "_law_sort" "_law_sort" (defArgs s_law_sort) (defBody s_law_sort) (defScope s_law_sort) .none kV_law_sort dc_law_sort pm_law_sort an_law_sort cd_law_sort ct_law_sort), a_law_like, (PySem.W.fnOf "_law_like" "_law_like" (defArgs s_law_like) (defBody s_law_like) (defScope s_law_like) .none kV_law_like dc_law_like pm_law_like an_law_like cd_law_like ct_law_like), a_law_root, (PySem.W.fnOf "_law_root" "_law_root" (defArgs s_law_root) (defBody s_law_root) (defScope s_law_root) .none kV_law_root dc_law_root pm_law_root an_law_root cd_law_root ct_law_root), a_law_is_unit, (PySem.W.fnOf "_law_is_unit" "_law_is_unit" (defArgs s_law_is_unit) (defBody s_law_is_unit) (defScope s_law_is_unit) .none kV_law_is_unit dc_law_is_unit pm_law_is_unit an_law_is_unit cd_law_is_unit ct_law_is_unit), a_law_norm, (PySem.W.fnOf "_law_norm" "_law_norm" (defArgs s_law_norm) (defBody s_law_norm) (defScope s_law_norm) .none kV_law_norm dc_law_norm pm_law_norm an_law_norm cd_law_norm ct_law_norm), a_law_times, (PySem.W.fnOf "_law_times" "_law_times" (defArgs s_law_times) (defBody s_law_times) (defScope s_law_times) .none kV_law_times dc_law_times pm_law_times an_law_times cd_law_times ct_law_times), a_law_power, (PySem.W.fnOf "_law_power" "_law_power" (defArgs s_law_power) (defBody s_law_power) (defScope s_law_power) .none kV_law_power dc_law_power pm_law_power an_law_power cd_law_power ct_law_power), a_law_first, (PySem.W.fnOf "_law_first" "_law_first" (defArgs s_law_first) (defBody s_law_first) (defScope s_law_first) .none kV_law_first dc_law_first pm_law_first an_law_first cd_law_first ct_law_first), a_law_error, (PySem.W.fnOf "_law_error" "_law_error" (defArgs s_law_error) (defBody s_law_error) (defScope s_law_error) .none kV_law_error dc_law_error pm_law_error an_law_error cd_law_error ct_law_error), a_law_number, (PySem.W.fnOf "_law_number" "_law_number" (defArgs s_law_number) (defBody s_law_number) (defScope s_law_number) .none kV_law_number dc_law_number pm_law_number an_law_number cd_law_number ct_law_number), a_law_unit, (PySem.W.fnOf "_law_unit" "_law_unit" (defArgs s_law_unit) (defBody s_law_unit) (defScope s_law_unit) .none kV_law_unit dc_law_unit pm_law_unit an_law_unit cd_law_unit ct_law_unit), a_law_is_free, (PySem.W.fnOf "_law_is_free" "_law_is_free" (defArgs s_law_is_free) (defBody s_law_is_free) (defScope s_law_is_free) .none kV_law_is_free dc_law_is_free pm_law_is_free an_law_is_free cd_law_is_free ct_law_is_free), a_law_near, (PySem.W.fnOf "_law_near" "_law_near" (defArgs s_law_near) (defBody s_law_near) (defScope s_law_near) .none kV_law_near dc_law_near pm_law_near an_law_near cd_law_near ct_law_near), a_law_right, (PySem.W.fnOf "_law_right" "_law_right" (defArgs s_law_right) (defBody s_law_right) (defScope s_law_right) .none kV_law_right dc_law_right pm_law_right an_law_right (.ref c_law_right) ct_law_right), a_law_ten, (PySem.W.fnOf "_law_ten" "_law_ten" (defArgs s_law_ten) (defBody s_law_ten) (defScope s_law_ten) .none kV_law_ten dc_law_ten pm_law_ten an_law_ten cd_law_ten ct_law_ten), a_law_digits_right, (PySem.W.fnOf "_law_digits_right" "_law_digits_right" (defArgs s_law_digits_right) (defBody s_law_digits_right) (defScope s_law_digits_right) .none kV_law_digits_right dc_law_digits_right pm_law_digits_right an_law_digits_right (.ref c_law_digits_right) ct_law_digits_right), a_law_errors_right, (PySem.W.fnOf "_law_errors_right" "_law_errors_right" (defArgs s_law_errors_right) (defBody s_law_errors_right) (defScope s_law_errors_right) .none kV_law_errors_right dc_law_errors_right pm_law_errors_right an_law_errors_right (.ref c_law_errors_right) ct_law_errors_right), fa, (PySem.W.fnOf "law" "law" (defArgs s_law) (defBody s_law) (defScope s_law) .none kV_law dc_law pm_law an_law cd_law ct_law), c_law_right, t_law_right, c_law_digits_right, t_law_digits_right, c_law_errors_right, t_law_errors_right, v_ONE⟩ := fun i => {
    f_is_whole := fun_mk (st := s_is_whole) hl_is_whole hc_is_whole hk_is_whole
    b_is_whole := (fun_mk (st := s_is_whole) hl_is_whole hc_is_whole hk_is_whole).binds (ps := (["value", "low", "high"] : List Str)) (fun _ _ _ _ _ _ us hl => match us, hl with | [_, _, _], _ => rfl)
    g_is_whole := PySem.W.mg_of KX NS ha_is_whole
    f_need_whole := fun_mk (st := s_need_whole) hl_need_whole hc_need_whole hk_need_whole
    b_need_whole := (fun_mk (st := s_need_whole) hl_need_whole hc_need_whole hk_need_whole).binds (ps := (["value", "low", "high"] : List Str)) (fun _ _ _ _ _ _ us hl => match us, hl with | [_, _, _], _ => rfl)
    g_need_whole := PySem.W.mg_of KX NS ha_need_whole
    f_is_tuple_of := fun_mk (st := s_is_tuple_of) hl_is_tuple_of hc_is_tuple_of hk_is_tuple_of
    b_is_tuple_of := (fun_mk (st := s_is_tuple_of) hl_is_tuple_of hc_is_tuple_of hk_is_tuple_of).binds (ps := (["value", "low", "high"] : List Str)) (fun _ _ _ _ _ _ us hl => match us, hl with | [_, _, _], _ => rfl)
    g_is_tuple_of := PySem.W.mg_of KX NS ha_is_tuple_of
    f_is_integer := fun_mk (st := s_is_integer) hl_is_integer hc_is_integer hk_is_integer
    b_is_integer := (fun_mk (st := s_is_integer) hl_is_integer hc_is_integer hk_is_integer).binds (ps := (["value"] : List Str)) (fun _ _ _ _ _ _ us hl => match us, hl with | [_], _ => rfl)
    g_is_integer := PySem.W.mg_of KX NS ha_is_integer
    f_root := fun_mk (st := s_root) hl_root hc_root hk_root
    b_root := (fun_mk (st := s_root) hl_root hc_root hk_root).binds (ps := (["number"] : List Str)) (fun _ _ _ _ _ _ us hl => match us, hl with | [_], _ => rfl)
    g_root := PySem.W.mg_of KX NS ha_root
    f_is_square := fun_mk (st := s_is_square) hl_is_square hc_is_square hk_is_square
    b_is_square := (fun_mk (st := s_is_square) hl_is_square hc_is_square hk_is_square).binds (ps := (["number"] : List Str)) (fun _ _ _ _ _ _ us hl => match us, hl with | [_], _ => rfl)
    g_is_square := PySem.W.mg_of KX NS ha_is_square
    f_is_number := fun_mk (st := s_is_number) hl_is_number hc_is_number hk_is_number
    b_is_number := (fun_mk (st := s_is_number) hl_is_number hc_is_number hk_is_number).binds (ps := (["value"] : List Str)) (fun _ _ _ _ _ _ us hl => match us, hl with | [_], _ => rfl)
    g_is_number := PySem.W.mg_of KX NS ha_is_number
    f_need_number := fun_mk (st := s_need_number) hl_need_number hc_need_number hk_need_number
    b_need_number := (fun_mk (st := s_need_number) hl_need_number hc_need_number hk_need_number).binds (ps := (["number"] : List Str)) (fun _ _ _ _ _ _ us hl => match us, hl with | [_], _ => rfl)
    g_need_number := PySem.W.mg_of KX NS ha_need_number
    f_is_free_in := fun_mk (st := s_is_free_in) hl_is_free_in hc_is_free_in hk_is_free_in
    b_is_free_in := (fun_mk (st := s_is_free_in) hl_is_free_in hc_is_free_in hk_is_free_in).binds (ps := (["number"] : List Str)) (fun _ _ _ _ _ _ us hl => match us, hl with | [_], _ => rfl)
    g_is_free_in := PySem.W.mg_of KX NS ha_is_free_in
    f_need_free := fun_mk (st := s_need_free) hl_need_free hc_need_free hk_need_free
    b_need_free := (fun_mk (st := s_need_free) hl_need_free hc_need_free hk_need_free).binds (ps := (["number"] : List Str)) (fun _ _ _ _ _ _ us hl => match us, hl with | [_], _ => rfl)
    g_need_free := PySem.W.mg_of KX NS ha_need_free
    f_size_of := fun_mk (st := s_size_of) hl_size_of hc_size_of hk_size_of
    b_size_of := (fun_mk (st := s_size_of) hl_size_of hc_size_of hk_size_of).binds (ps := (["number", "pair"] : List Str)) (fun _ _ _ _ _ _ us hl => match us, hl with | [_, _], _ => rfl)
    g_size_of := PySem.W.mg_of KX NS ha_size_of
    f_fits := fun_mk (st := s_fits) hl_fits hc_fits hk_fits
    b_fits := (fun_mk (st := s_fits) hl_fits hc_fits hk_fits).binds (ps := (["number", "value"] : List Str)) (fun _ _ _ _ _ _ us hl => match us, hl with | [_, _], _ => rfl)
    g_fits := PySem.W.mg_of KX NS ha_fits
    f_need_unit := fun_mk (st := s_need_unit) hl_need_unit hc_need_unit hk_need_unit
    b_need_unit := (fun_mk (st := s_need_unit) hl_need_unit hc_need_unit hk_need_unit).binds (ps := (["number", "unit"] : List Str)) (fun _ _ _ _ _ _ us hl => match us, hl with | [_, _], _ => rfl)
    g_need_unit := PySem.W.mg_of KX NS ha_need_unit
    f_norm_of := fun_mk (st := s_norm_of) hl_norm_of hc_norm_of hk_norm_of
    b_norm_of := (fun_mk (st := s_norm_of) hl_norm_of hc_norm_of hk_norm_of).binds (ps := (["number", "unit"] : List Str)) (fun _ _ _ _ _ _ us hl => match us, hl with | [_, _], _ => rfl)
    g_norm_of := PySem.W.mg_of KX NS ha_norm_of
    f_times := fun_mk (st := s_times) hl_times hc_times hk_times
    b_times := (fun_mk (st := s_times) hl_times hc_times hk_times).binds (ps := (["number", "one", "other"] : List Str)) (fun _ _ _ _ _ _ us hl => match us, hl with | [_, _, _], _ => rfl)
    g_times := PySem.W.mg_of KX NS ha_times
    f_back := fun_mk (st := s_back) hl_back hc_back hk_back
    b_back := (fun_mk (st := s_back) hl_back hc_back hk_back).binds (ps := (["number", "unit"] : List Str)) (fun _ _ _ _ _ _ us hl => match us, hl with | [_, _], _ => rfl)
    g_back := PySem.W.mg_of KX NS ha_back
    f_opposite := fun_mk (st := s_opposite) hl_opposite hc_opposite hk_opposite
    b_opposite := (fun_mk (st := s_opposite) hl_opposite hc_opposite hk_opposite).binds (ps := (["unit"] : List Str)) (fun _ _ _ _ _ _ us hl => match us, hl with | [_], _ => rfl)
    g_opposite := PySem.W.mg_of KX NS ha_opposite
    f_bits_of := fun_mk (st := s_bits_of) hl_bits_of hc_bits_of hk_bits_of
    b_bits_of := (fun_mk (st := s_bits_of) hl_bits_of hc_bits_of hk_bits_of).binds (ps := (["often"] : List Str)) (fun _ _ _ _ _ _ us hl => match us, hl with | [_], _ => rfl)
    g_bits_of := PySem.W.mg_of KX NS ha_bits_of
    f_raised := fun_mk (st := s_raised) hl_raised hc_raised hk_raised
    b_raised := (fun_mk (st := s_raised) hl_raised hc_raised hk_raised).binds (ps := (["number", "unit", "often", "most"] : List Str)) (fun _ _ _ _ _ _ us hl => match us, hl with | [_, _, _, _], _ => rfl)
    g_raised := PySem.W.mg_of KX NS ha_raised
    f_grown := fun_mk (st := s_grown) hl_grown hc_grown hk_grown
    b_grown := (fun_mk (st := s_grown) hl_grown hc_grown hk_grown).binds (ps := (["value", "often"] : List Str)) (fun _ _ _ _ _ _ us hl => match us, hl with | [_, _], _ => rfl)
    g_grown := PySem.W.mg_of KX NS ha_grown
    f_great := fun_mk (st := s_great) hl_great hc_great hk_great
    b_great := (fun_mk (st := s_great) hl_great hc_great hk_great).binds (ps := ([] : List Str)) (fun _ _ _ _ _ _ us hl => match us, hl with | [], _ => rfl)
    g_great := PySem.W.mg_of KX NS ha_great
    f_is_above := fun_mk (st := s_is_above) hl_is_above hc_is_above hk_is_above
    b_is_above := (fun_mk (st := s_is_above) hl_is_above hc_is_above hk_is_above).binds (ps := (["unit"] : List Str)) (fun _ _ _ _ _ _ us hl => match us, hl with | [_], _ => rfl)
    g_is_above := PySem.W.mg_of KX NS ha_is_above
    f_is_discriminant := fun_mk (st := s_is_discriminant) hl_is_discriminant hc_is_discriminant hk_is_discriminant
    b_is_discriminant := (fun_mk (st := s_is_discriminant) hl_is_discriminant hc_is_discriminant hk_is_discriminant).binds (ps := (["value"] : List Str)) (fun _ _ _ _ _ _ us hl => match us, hl with | [_], _ => rfl)
    g_is_discriminant := PySem.W.mg_of KX NS ha_is_discriminant
    f_is_free := fun_mk (st := s_is_free) hl_is_free hc_is_free hk_is_free
    b_is_free := (fun_mk (st := s_is_free) hl_is_free hc_is_free hk_is_free).binds (ps := (["number"] : List Str)) (fun _ _ _ _ _ _ us hl => match us, hl with | [_], _ => rfl)
    g_is_free := PySem.W.mg_of KX NS ha_is_free
    f_is_unit := fun_mk (st := s_is_unit) hl_is_unit hc_is_unit hk_is_unit
    b_is_unit := (fun_mk (st := s_is_unit) hl_is_unit hc_is_unit hk_is_unit).binds (ps := (["number", "value"] : List Str)) (fun _ _ _ _ _ _ us hl => match us, hl with | [_, _], _ => rfl)
    g_is_unit := PySem.W.mg_of KX NS ha_is_unit
    f_unit_norm := fun_mk (st := s_unit_norm) hl_unit_norm hc_unit_norm hk_unit_norm
    b_unit_norm := (fun_mk (st := s_unit_norm) hl_unit_norm hc_unit_norm hk_unit_norm).binds (ps := (["number", "unit"] : List Str)) (fun _ _ _ _ _ _ us hl => match us, hl with | [_, _], _ => rfl)
    g_unit_norm := PySem.W.mg_of KX NS ha_unit_norm
    f_unit_product := fun_mk (st := s_unit_product) hl_unit_product hc_unit_product hk_unit_product
    b_unit_product := (fun_mk (st := s_unit_product) hl_unit_product hc_unit_product hk_unit_product).binds (ps := (["number", "one", "other"] : List Str)) (fun _ _ _ _ _ _ us hl => match us, hl with | [_, _, _], _ => rfl)
    g_unit_product := PySem.W.mg_of KX NS ha_unit_product
    f_unit_back := fun_mk (st := s_unit_back) hl_unit_back hc_unit_back hk_unit_back
    b_unit_back := (fun_mk (st := s_unit_back) hl_unit_back hc_unit_back hk_unit_back).binds (ps := (["number", "unit"] : List Str)) (fun _ _ _ _ _ _ us hl => match us, hl with | [_, _], _ => rfl)
    g_unit_back := PySem.W.mg_of KX NS ha_unit_back
    f_unit_opposite := fun_mk (st := s_unit_opposite) hl_unit_opposite hc_unit_opposite hk_unit_opposite
    b_unit_opposite := (fun_mk (st := s_unit_opposite) hl_unit_opposite hc_unit_opposite hk_unit_opposite).binds (ps := (["number", "unit"] : List Str)) (fun _ _ _ _ _ _ us hl => match us, hl with | [_, _], _ => rfl)
    g_unit_opposite := PySem.W.mg_of KX NS ha_unit_opposite
    f_unit_power := fun_mk (st := s_unit_power) hl_unit_power hc_unit_power hk_unit_power
    b_unit_power := (fun_mk (st := s_unit_power) hl_unit_power hc_unit_power hk_unit_power).binds (ps := (["number", "unit", "often"] : List Str)) (fun _ _ _ _ _ _ us hl => match us, hl with | [_, _, _], _ => rfl)
    g_unit_power := PySem.W.mg_of KX NS ha_unit_power
    f_is_above_one := fun_mk (st := s_is_above_one) hl_is_above_one hc_is_above_one hk_is_above_one
    b_is_above_one := (fun_mk (st := s_is_above_one) hl_is_above_one hc_is_above_one hk_is_above_one).binds (ps := (["number", "unit"] : List Str)) (fun _ _ _ _ _ _ us hl => match us, hl with | [_, _], _ => rfl)
    g_is_above_one := PySem.W.mg_of KX NS ha_is_above_one
    f_law_cup := fun_mk (st := s_law_cup) hl_law_cup hc_law_cup hk_law_cup
    b_law_cup := (fun_mk (st := s_law_cup) hl_law_cup hc_law_cup hk_law_cup).binds (ps := (["script"] : List Str)) (fun _ _ _ _ _ _ us hl => match us, hl with | [_], _ => rfl)
    g_law_cup := PySem.W.mg_of KX NS ha_law_cup
    f_law_roll := fun_mk (st := s_law_roll) hl_law_roll hc_law_roll hk_law_roll
    b_law_roll := (fun_mk (st := s_law_roll) hl_law_roll hc_law_roll hk_law_roll).binds (ps := (["cup", "many"] : List Str)) (fun _ _ _ _ _ _ us hl => match us, hl with | [_, _], _ => rfl)
    g_law_roll := PySem.W.mg_of KX NS ha_law_roll
    f_law_some := fun_mk (st := s_law_some) hl_law_some hc_law_some hk_law_some
    b_law_some := (fun_mk (st := s_law_some) hl_law_some hc_law_some hk_law_some).binds (ps := (["cup", "things"] : List Str)) (fun _ _ _ _ _ _ us hl => match us, hl with | [_, _], _ => rfl)
    g_law_some := PySem.W.mg_of KX NS ha_law_some
    f_law_sort := fun_mk (st := s_law_sort) hl_law_sort hc_law_sort hk_law_sort
    b_law_sort := (fun_mk (st := s_law_sort) hl_law_sort hc_law_sort hk_law_sort).binds (ps := (["value"] : List Str)) (fun _ _ _ _ _ _ us hl => match us, hl with | [_], _ => rfl)
    g_law_sort := PySem.W.mg_of KX NS ha_law_sort
    f_law_like := fun_mk (st := s_law_like) hl_law_like hc_law_like hk_law_like
    b_law_like := (fun_mk (st := s_law_like) hl_law_like hc_law_like hk_law_like).binds (ps := (["one", "other"] : List Str)) (fun _ _ _ _ _ _ us hl => match us, hl with | [_, _], _ => rfl)
    g_law_like := PySem.W.mg_of KX NS ha_law_like
    f_law_root := fun_mk (st := s_law_root) hl_law_root hc_law_root hk_law_root
    b_law_root := (fun_mk (st := s_law_root) hl_law_root hc_law_root hk_law_root).binds (ps := (["value"] : List Str)) (fun _ _ _ _ _ _ us hl => match us, hl with | [_], _ => rfl)
    g_law_root := PySem.W.mg_of KX NS ha_law_root
    f_law_is_unit := fun_mk (st := s_law_is_unit) hl_law_is_unit hc_law_is_unit hk_law_is_unit
    b_law_is_unit := (fun_mk (st := s_law_is_unit) hl_law_is_unit hc_law_is_unit hk_law_is_unit).binds (ps := (["number", "value"] : List Str)) (fun _ _ _ _ _ _ us hl => match us, hl with | [_, _], _ => rfl)
    g_law_is_unit := PySem.W.mg_of KX NS ha_law_is_unit
    f_law_norm := fun_mk (st := s_law_norm) hl_law_norm hc_law_norm hk_law_norm
    b_law_norm := (fun_mk (st := s_law_norm) hl_law_norm hc_law_norm hk_law_norm).binds (ps := (["number", "unit"] : List Str)) (fun _ _ _ _ _ _ us hl => match us, hl with | [_, _], _ => rfl)
    g_law_norm := PySem.W.mg_of KX NS ha_law_norm
    f_law_times := fun_mk (st := s_law_times) hl_law_times hc_law_times hk_law_times
    b_law_times := (fun_mk (st := s_law_times) hl_law_times hc_law_times hk_law_times).binds (ps := (["number", "one", "other"] : List Str)) (fun _ _ _ _ _ _ us hl => match us, hl with | [_, _, _], _ => rfl)
    g_law_times := PySem.W.mg_of KX NS ha_law_times
    f_law_power := fun_mk (st := s_law_power) hl_law_power hc_law_power hk_law_power
    b_law_power := (fun_mk (st := s_law_power) hl_law_power hc_law_power hk_law_power).binds (ps := (["number", "unit", "often"] : List Str)) (fun _ _ _ _ _ _ us hl => match us, hl with | [_, _, _], _ => rfl)
    g_law_power := PySem.W.mg_of KX NS ha_law_power
    f_law_first := fun_mk (st := s_law_first) hl_law_first hc_law_first hk_law_first
    b_law_first := (fun_mk (st := s_law_first) hl_law_first hc_law_first hk_law_first).binds (ps := (["number"] : List Str)) (fun _ _ _ _ _ _ us hl => match us, hl with | [_], _ => rfl)
    g_law_first := PySem.W.mg_of KX NS ha_law_first
    f_law_error := fun_mk (st := s_law_error) hl_law_error hc_law_error hk_law_error
    b_law_error := (fun_mk (st := s_law_error) hl_law_error hc_law_error hk_law_error).binds (ps := (["call"] : List Str)) (fun _ _ _ _ _ _ us hl => match us, hl with | [_], _ => rfl)
    g_law_error := PySem.W.mg_of KX NS ha_law_error
    f_law_number := fun_mk (st := s_law_number) hl_law_number hc_law_number hk_law_number
    b_law_number := (fun_mk (st := s_law_number) hl_law_number hc_law_number hk_law_number).binds (ps := (["cup"] : List Str)) (fun _ _ _ _ _ _ us hl => match us, hl with | [_], _ => rfl)
    g_law_number := PySem.W.mg_of KX NS ha_law_number
    f_law_unit := fun_mk (st := s_law_unit) hl_law_unit hc_law_unit hk_law_unit
    b_law_unit := (fun_mk (st := s_law_unit) hl_law_unit hc_law_unit hk_law_unit).binds (ps := (["cup", "number"] : List Str)) (fun _ _ _ _ _ _ us hl => match us, hl with | [_, _], _ => rfl)
    g_law_unit := PySem.W.mg_of KX NS ha_law_unit
    f_law_is_free := fun_mk (st := s_law_is_free) hl_law_is_free hc_law_is_free hk_law_is_free
    b_law_is_free := (fun_mk (st := s_law_is_free) hl_law_is_free hc_law_is_free hk_law_is_free).binds (ps := (["number"] : List Str)) (fun _ _ _ _ _ _ us hl => match us, hl with | [_], _ => rfl)
    g_law_is_free := PySem.W.mg_of KX NS ha_law_is_free
    f_law_near := fun_mk (st := s_law_near) hl_law_near hc_law_near hk_law_near
    b_law_near := (fun_mk (st := s_law_near) hl_law_near hc_law_near hk_law_near).binds (ps := (["cup", "unit"] : List Str)) (fun _ _ _ _ _ _ us hl => match us, hl with | [_, _], _ => rfl)
    g_law_near := PySem.W.mg_of KX NS ha_law_near
    f_law_right := ⟨⟨_, _, _, _, _, _, _, _, rfl, hl_law_right, hc_law_right⟩, hk_law_right⟩
    b_law_right := (fun_mk (st := s_law_right) hl_law_right hc_law_right hk_law_right).binds (ps := (["cup", "number"] : List Str)) (fun _ _ _ _ _ _ us hl => match us, hl with | [_, _], _ => rfl)
    g_law_right := PySem.W.mg_of KX NS ha_law_right
    f_law_ten := fun_mk (st := s_law_ten) hl_law_ten hc_law_ten hk_law_ten
    b_law_ten := (fun_mk (st := s_law_ten) hl_law_ten hc_law_ten hk_law_ten).binds (ps := (["many"] : List Str)) (fun _ _ _ _ _ _ us hl => match us, hl with | [_], _ => rfl)
    g_law_ten := PySem.W.mg_of KX NS ha_law_ten
    f_law_digits_right := ⟨⟨_, _, _, _, _, _, _, _, rfl, hl_law_digits_right, hc_law_digits_right⟩, hk_law_digits_right⟩
    b_law_digits_right := (fun_mk (st := s_law_digits_right) hl_law_digits_right hc_law_digits_right hk_law_digits_right).binds (ps := ([] : List Str)) (fun _ _ _ _ _ _ us hl => match us, hl with | [], _ => rfl)
    g_law_digits_right := PySem.W.mg_of KX NS ha_law_digits_right
    f_law_errors_right := ⟨⟨_, _, _, _, _, _, _, _, rfl, hl_law_errors_right, hc_law_errors_right⟩, hk_law_errors_right⟩
    b_law_errors_right := (fun_mk (st := s_law_errors_right) hl_law_errors_right hc_law_errors_right hk_law_errors_right).binds (ps := ([] : List Str)) (fun _ _ _ _ _ _ us hl => match us, hl with | [], _ => rfl)
    g_law_errors_right := PySem.W.mg_of KX NS ha_law_errors_right
    f_law := fun_mk (st := s_law) hl_law hc_law hk_law
    b_law := (fun_mk (st := s_law) hl_law hc_law hk_law).binds (ps := (["script"] : List Str)) (fun _ _ _ _ _ _ us hl => match us, hl with | [_], _ => rfl)
    g_law := PySem.W.mg_of KX NS ha_law
    fa_is_unit := rfl
    fa_unit_norm := rfl
    fa_unit_product := rfl
    fa_unit_back := rfl
    fa_unit_opposite := rfl
    fa_unit_power := rfl
    fa_is_above_one := rfl
    n_abs := PySem.W.mg_none_of KX NS hb_abs
    n_all := PySem.W.mg_none_of KX NS hb_all
    n_bool := PySem.W.mg_none_of KX NS hb_bool
    n_int := PySem.W.mg_none_of KX NS hb_int
    n_isinstance := PySem.W.mg_none_of KX NS hb_isinstance
    n_len := PySem.W.mg_none_of KX NS hb_len
    n_list := PySem.W.mg_none_of KX NS hb_list
    n_range := PySem.W.mg_none_of KX NS hb_range
    n_str := PySem.W.mg_none_of KX NS hb_str
    n_tuple := PySem.W.mg_none_of KX NS hb_tuple
    n_zip := PySem.W.mg_none_of KX NS hb_zip
    k_MOST := ⟨_, PySem.W.mg_of KX NS hv_MOST⟩
    k_DIGITS := ⟨_, PySem.W.mg_of KX NS hv_DIGITS⟩
    k_OFTEN := ⟨_, PySem.W.mg_of KX NS hv_OFTEN⟩
    t_ONE := PySem.W.mg_of KX NS hv_ONE
    kt_ONE := hkt_ONE
    lcN := rfl
    lcE := rfl
    oex := ⟨⟨_, _, _, _, _, _, _, _, _, _, _, _, _, _, _, hL_o, hL_r⟩, hL_q, hB_TooMany, hT_TooMany, hK_TooMany⟩
    nol := hL_n
    n_super := PySem.W.mg_none_of KX NS hL_S
    htop := hL_T
    lim := ⟨fI_L, cc_L, cda_L, _, defArgs s_lim__, defScope s_lim__, q0_L, q1_L, q2_L, q3_L, q4_L, q5_L, q6_L, q7_L, q8_L, q9_L, hL_f, hL_t, {
      fn := ⟨_, _, _, _, _, _, _, _, _, hL_b ▸ hL_l, fun a u => rfl⟩
      first := ⟨_, rfl, rfl⟩
      code := hL_c
      file := ⟨_, _, _, _, _, _, hL_d, hL_v, hL_e⟩
      cell := ⟨_, _, _, hL_x⟩
      cls := ⟨_, by show PySem.W.clsIn K C_TooMany = _; unfold PySem.W.clsIn; rw [hL_o]⟩
      sub := hL_m
      sup := hL_s
      isB := hL_B
      any := hL_a
      nol := hL_n
      sa := hL_q
      s1 := rfl
      s2 := rfl
      s3 := rfl
      s4 := rfl
      s5 := by decide +kernel
      s6 := rfl
      s7 := rfl
      s8 := rfl }, hL_ev⟩
    x_WholeError := hx_WholeError
    cg_WholeError := PySem.W.mg_of KX NS hg_WholeError
    ck_WholeError := hK_WholeError
    cb_WholeError := hB_WholeError
    ct_WholeError := hT_WholeError
    ci_WholeError := hI_WholeError
    ce_WholeError := ⟨e1_WholeError, e2_WholeError, hB_WholeError, e3_WholeError, e4_WholeError, e6, e7, e5_WholeError⟩
    x_InvalidNumber := hx_InvalidNumber
    cg_InvalidNumber := PySem.W.mg_of KX NS hg_InvalidNumber
    ck_InvalidNumber := hK_InvalidNumber
    cb_InvalidNumber := hB_InvalidNumber
    ct_InvalidNumber := hT_InvalidNumber
    ci_InvalidNumber := hI_InvalidNumber
    ce_InvalidNumber := ⟨e1_InvalidNumber, e2_InvalidNumber, hB_InvalidNumber, e3_InvalidNumber, e4_InvalidNumber, e6, e7, e5_InvalidNumber⟩
    x_InvalidUnit := hx_InvalidUnit
    cg_InvalidUnit := PySem.W.mg_of KX NS hg_InvalidUnit
    ck_InvalidUnit := hK_InvalidUnit
    cb_InvalidUnit := hB_InvalidUnit
    ct_InvalidUnit := hT_InvalidUnit
    ci_InvalidUnit := hI_InvalidUnit
    ce_InvalidUnit := ⟨e1_InvalidUnit, e2_InvalidUnit, hB_InvalidUnit, e3_InvalidUnit, e4_InvalidUnit, e6, e7, e5_InvalidUnit⟩
    x_NotNow := hx_NotNow
    cg_NotNow := PySem.W.mg_of KX NS hg_NotNow
    ck_NotNow := hK_NotNow
    cb_NotNow := hB_NotNow
    ct_NotNow := hT_NotNow
    ci_NotNow := hI_NotNow
    ce_NotNow := ⟨e1_NotNow, e2_NotNow, hB_NotNow, e3_NotNow, e4_NotNow, e6, e7, e5_NotNow⟩
    cg_TooMany := PySem.W.mg_of KX NS hg_TooMany
    ck_TooMany := hK_TooMany
    cb_TooMany := hB_TooMany
    ct_TooMany := hT_TooMany
    ci_TooMany := hI_TooMany
    ce_TooMany := ⟨e1_TooMany, e2_TooMany, hB_TooMany, e3_TooMany, e4_TooMany, e6, e7, e5_TooMany⟩
    s_0_0 := hs_0_0
    s_0_1 := hs_0_1
    s_0_2 := hs_0_2
    s_0_3 := hs_0_3
    s_0_4 := hs_0_4
    s_1_0 := hs_1_0
    s_1_1 := hs_1_1
    s_1_2 := hs_1_2
    s_1_3 := hs_1_3
    s_1_4 := hs_1_4
    s_2_0 := hs_2_0
    s_2_1 := hs_2_1
    s_2_2 := hs_2_2
    s_2_3 := hs_2_3
    s_2_4 := hs_2_4
    s_3_0 := hs_3_0
    s_3_1 := hs_3_1
    s_3_2 := hs_3_2
    s_3_3 := hs_3_3
    s_3_4 := hs_3_4
    s_4_0 := hs_4_0
    s_4_1 := hs_4_1
    s_4_2 := hs_4_2
    s_4_3 := hs_4_3
    s_4_4 := hs_4_4
    tabU := Mir.tabUN hz }
  refine ⟨PySem.W.fnOf "law" "law" (defArgs s_law) (defBody s_law) (defScope s_law) .none kV_law dc_law pm_law an_law cd_law ct_law, ([(c_law_right, t_law_right), (c_law_digits_right, t_law_digits_right), (c_law_errors_right, t_law_errors_right)] : List (Addr × Addr)), fun vs H Q E => ∃ i : Addr × List Int, spM ⟨K, ([(t_law_right, ("_law_right" : Str) ++ ".<locals>." ++ "<lambda>"), (t_law_digits_right, ("_law_digits_right" : Str) ++ ".<locals>." ++ "<lambda>"), (t_law_errors_right, ("_law_errors_right" : Str) ++ ".<locals>." ++ "<lambda>")] : List (Addr × Str)), (fun n => match n with | 0 => C_WholeError | 1 => C_InvalidNumber | 2 => C_InvalidUnit | 3 => C_NotNow | _ => C_TooMany), (fun n => match n with | 24 => a_is_unit | 25 => a_unit_norm | 26 => a_unit_product | 27 => a_unit_back | 28 => a_unit_opposite | 29 => a_unit_power | 30 => a_is_above_one | _ => 0), i.1, i.2, 0, 4, 0⟩ 1 (m_law i.2) vs H Q E, ?_, ?_, ?_, fun s u => .of_eq rfl, fun H a ns hn hbits hT hS => ?_, fun base hB hN TB => ?_⟩
  · exact (List.forall_mem_cons.mpr ⟨F_law_right.2, (List.forall_mem_cons.mpr ⟨F_law_digits_right.2, (List.forall_mem_cons.mpr ⟨F_law_errors_right.2, (fun p hp => absurd hp (by simp))⟩)⟩)⟩)
  · exact (List.forall_mem_cons.mpr ⟨hn_law_right, (List.forall_mem_cons.mpr ⟨hn_law_digits_right, (List.forall_mem_cons.mpr ⟨hn_law_errors_right, (fun p hp => absurd hp (by simp))⟩)⟩)⟩)
  · exact (List.forall_mem_cons.mpr ⟨F_law_right.1, (List.forall_mem_cons.mpr ⟨F_law_digits_right.1, (List.forall_mem_cons.mpr ⟨F_law_errors_right.1, (fun p hp => absurd hp (by simp))⟩)⟩)⟩)
  · exact law_sp (List.forall_mem_cons.mpr ⟨hT (c_law_right, t_law_right) (by first | exact List.mem_cons_self | simp), (List.forall_mem_cons.mpr ⟨hT (c_law_digits_right, t_law_digits_right) (by first | exact List.mem_cons_self | simp), (List.forall_mem_cons.mpr ⟨hT (c_law_errors_right, t_law_errors_right) (by first | exact List.mem_cons_self | simp), (fun p hp => absurd hp (by simp))⟩)⟩)⟩) hS (right ns hn hbits)
  · exact FnOk.ex fun i => ok_law rfl (T i) (TB (c_law_right, t_law_right) (by first | exact List.mem_cons_self | simp)) (by first | exact List.mem_cons_self | simp) (TB (c_law_digits_right, t_law_digits_right) (by first | exact List.mem_cons_self | simp)) (by first | exact List.mem_cons_self | simp) (TB (c_law_errors_right, t_law_errors_right) (by first | exact List.mem_cons_self | simp)) (by first | exact List.mem_cons_self | simp)
end K21
open PySem PySem.W PyProof.Rows
set_option maxRecDepth 100000 in
set_option maxHeartbeats 0 in
theorem PySem.Challenge.cw_wholesolved_k21_whole_units_as_pairs_holds : PySem.Challenge.rw_wholesolved_k21_whole_units_as_pairs.Holds := by
  w_on; o_law; k_head; (case hw => w_witness2)
  k_fill
  refine LamX.walk_ofTs (l := PySem.Challenge.rw_wholesolved_k21_whole_units_as_pairs) (n := 63) (k := 12) (x := "script") (CX := fun w => L2N.CX PySem.Challenge.rw_wholesolved_k21_whole_units_as_pairs.prog w) rfl (by decide) rfl ⟨rfl, by decide, by decide⟩ (fun w h Y => by first | exact PySem.W.kIn_of Y | exact PySem.W.km_in_of Y) ?F (fun w H s e s' z => Mir.cxN_none z)
  case F =>
    intro w mg fa h Y KX NS hmg
    refine' K21.fin_law K21.right KX NS hmg ?ha_is_whole ?hl_is_whole ?hc_is_whole ?hk_is_whole ?ha_need_whole ?hl_need_whole ?hc_need_whole ?hk_need_whole ?ha_is_tuple_of ?hl_is_tuple_of ?hc_is_tuple_of ?hk_is_tuple_of ?ha_is_integer ?hl_is_integer ?hc_is_integer ?hk_is_integer ?ha_root ?hl_root ?hc_root ?hk_root ?ha_is_square ?hl_is_square ?hc_is_square ?hk_is_square ?ha_is_number ?hl_is_number ?hc_is_number ?hk_is_number ?ha_need_number ?hl_need_number ?hc_need_number ?hk_need_number ?ha_is_free_in ?hl_is_free_in ?hc_is_free_in ?hk_is_free_in ?ha_need_free ?hl_need_free ?hc_need_free ?hk_need_free ?ha_size_of ?hl_size_of ?hc_size_of ?hk_size_of ?ha_fits ?hl_fits ?hc_fits ?hk_fits ?ha_need_unit ?hl_need_unit ?hc_need_unit ?hk_need_unit ?ha_norm_of ?hl_norm_of ?hc_norm_of ?hk_norm_of ?ha_times ?hl_times ?hc_times ?hk_times ?ha_back ?hl_back ?hc_back ?hk_back ?ha_opposite ?hl_opposite ?hc_opposite ?hk_opposite ?ha_bits_of ?hl_bits_of ?hc_bits_of ?hk_bits_of ?ha_raised ?hl_raised ?hc_raised ?hk_raised ?ha_grown ?hl_grown ?hc_grown ?hk_grown ?ha_great ?hl_great ?hc_great ?hk_great ?ha_is_above ?hl_is_above ?hc_is_above ?hk_is_above ?ha_is_discriminant ?hl_is_discriminant ?hc_is_discriminant ?hk_is_discriminant ?ha_is_free ?hl_is_free ?hc_is_free ?hk_is_free ?ha_is_unit ?hl_is_unit ?hc_is_unit ?hk_is_unit ?ha_unit_norm ?hl_unit_norm ?hc_unit_norm ?hk_unit_norm ?ha_unit_product ?hl_unit_product ?hc_unit_product ?hk_unit_product ?ha_unit_back ?hl_unit_back ?hc_unit_back ?hk_unit_back ?ha_unit_opposite ?hl_unit_opposite ?hc_unit_opposite ?hk_unit_opposite ?ha_unit_power ?hl_unit_power ?hc_unit_power ?hk_unit_power ?ha_is_above_one ?hl_is_above_one ?hc_is_above_one ?hk_is_above_one ?ha_law_cup ?hl_law_cup ?hc_law_cup ?hk_law_cup ?ha_law_roll ?hl_law_roll ?hc_law_roll ?hk_law_roll ?ha_law_some ?hl_law_some ?hc_law_some ?hk_law_some ?ha_law_sort ?hl_law_sort ?hc_law_sort ?hk_law_sort ?ha_law_like ?hl_law_like ?hc_law_like ?hk_law_like ?ha_law_root ?hl_law_root ?hc_law_root ?hk_law_root ?ha_law_is_unit ?hl_law_is_unit ?hc_law_is_unit ?hk_law_is_unit ?ha_law_norm ?hl_law_norm ?hc_law_norm ?hk_law_norm ?ha_law_times ?hl_law_times ?hc_law_times ?hk_law_times ?ha_law_power ?hl_law_power ?hc_law_power ?hk_law_power ?ha_law_first ?hl_law_first ?hc_law_first ?hk_law_first ?ha_law_error ?hl_law_error ?hc_law_error ?hk_law_error ?ha_law_number ?hl_law_number ?hc_law_number ?hk_law_number ?ha_law_unit ?hl_law_unit ?hc_law_unit ?hk_law_unit ?ha_law_is_free ?hl_law_is_free ?hc_law_is_free ?hk_law_is_free ?ha_law_near ?hl_law_near ?hc_law_near ?hk_law_near ?ha_law_right ?hl_law_right ?hc_law_right ?hk_law_right ?ht_law_right ?hn_law_right ?ha_law_ten ?hl_law_ten ?hc_law_ten ?hk_law_ten ?ha_law_digits_right ?hl_law_digits_right ?hc_law_digits_right ?hk_law_digits_right ?ht_law_digits_right ?hn_law_digits_right ?ha_law_errors_right ?hl_law_errors_right ?hc_law_errors_right ?hk_law_errors_right ?ht_law_errors_right ?hn_law_errors_right ?ha_law ?hl_law ?hc_law ?hk_law ?hb_abs ?hb_all ?hb_bool ?hb_int ?hb_isinstance ?hb_len ?hb_list ?hb_range ?hb_str ?hb_tuple ?hb_zip ?hv_MOST ?hv_DIGITS ?hv_OFTEN ?hv_ONE ?hkt_ONE ?hg_WholeError ?hx_WholeError ?hK_WholeError ?hB_WholeError ?hT_WholeError ?hI_WholeError ?e1_WholeError ?e2_WholeError ?e3_WholeError ?e4_WholeError ?e5_WholeError ?hg_InvalidNumber ?hx_InvalidNumber ?hK_InvalidNumber ?hB_InvalidNumber ?hT_InvalidNumber ?hI_InvalidNumber ?e1_InvalidNumber ?e2_InvalidNumber ?e3_InvalidNumber ?e4_InvalidNumber ?e5_InvalidNumber ?hg_InvalidUnit ?hx_InvalidUnit ?hK_InvalidUnit ?hB_InvalidUnit ?hT_InvalidUnit ?hI_InvalidUnit ?e1_InvalidUnit ?e2_InvalidUnit ?e3_InvalidUnit ?e4_InvalidUnit ?e5_InvalidUnit ?hg_NotNow ?hx_NotNow ?hK_NotNow ?hB_NotNow ?hT_NotNow ?hI_NotNow ?e1_NotNow ?e2_NotNow ?e3_NotNow ?e4_NotNow ?e5_NotNow ?hg_TooMany ?hK_TooMany ?hB_TooMany ?hT_TooMany ?hI_TooMany ?e1_TooMany ?e2_TooMany ?e3_TooMany ?e4_TooMany ?e5_TooMany ?e6 ?e7 ?hs_0_0 ?hs_0_1 ?hs_0_2 ?hs_0_3 ?hs_0_4 ?hs_1_0 ?hs_1_1 ?hs_1_2 ?hs_1_3 ?hs_1_4 ?hs_2_0 ?hs_2_1 ?hs_2_2 ?hs_2_3 ?hs_2_4 ?hs_3_0 ?hs_3_1 ?hs_3_2 ?hs_3_3 ?hs_3_4 ?hs_4_0 ?hs_4_1 ?hs_4_2 ?hs_4_3 ?hs_4_4 ?hL_f ?hL_t ?hL_l ?hL_b ?hL_c ?hL_d ?hL_v ?hL_e ?hL_x ?hL_m ?hL_s ?hL_B ?hL_a ?hL_n ?hL_q ?hL_o ?hL_r ?hL_S ?hL_T ?hL_ev ?hz
    (case ha_is_whole => k_is)
    (case hl_is_whole => k_is)
    (case hc_is_whole => k_is)
    (case hk_is_whole => k_is)
    (case ha_need_whole => k_is)
    (case hl_need_whole => k_is)
    (case hc_need_whole => k_is)
    (case hk_need_whole => k_is)
    (case ha_is_tuple_of => k_is)
    (case hl_is_tuple_of => k_is)
    (case hc_is_tuple_of => k_is)
    (case hk_is_tuple_of => k_is)
    (case ha_is_integer => k_is)
    (case hl_is_integer => k_is)
    (case hc_is_integer => k_is)
    (case hk_is_integer => k_is)
    (case ha_root => k_is)
    (case hl_root => k_is)
    (case hc_root => k_is)
    (case hk_root => k_is)
    (case ha_is_square => k_is)
    (case hl_is_square => k_is)
    (case hc_is_square => k_is)
    (case hk_is_square => k_is)
    (case ha_is_number => k_is)
    (case hl_is_number => k_is)
    (case hc_is_number => k_is)
    (case hk_is_number => k_is)
    (case ha_need_number => k_is)
    (case hl_need_number => k_is)
    (case hc_need_number => k_is)
    (case hk_need_number => k_is)
    (case ha_is_free_in => k_is)
    (case hl_is_free_in => k_is)
    (case hc_is_free_in => k_is)
    (case hk_is_free_in => k_is)
    (case ha_need_free => k_is)
    (case hl_need_free => k_is)
    (case hc_need_free => k_is)
    (case hk_need_free => k_is)
    (case ha_size_of => k_is)
    (case hl_size_of => k_is)
    (case hc_size_of => k_is)
    (case hk_size_of => k_is)
    (case ha_fits => k_is)
    (case hl_fits => k_is)
    (case hc_fits => k_is)
    (case hk_fits => k_is)
    (case ha_need_unit => k_is)
    (case hl_need_unit => k_is)
    (case hc_need_unit => k_is)
    (case hk_need_unit => k_is)
    (case ha_norm_of => k_is)
    (case hl_norm_of => k_is)
    (case hc_norm_of => k_is)
    (case hk_norm_of => k_is)
    (case ha_times => k_is)
    (case hl_times => k_is)
    (case hc_times => k_is)
    (case hk_times => k_is)
    (case ha_back => k_is)
    (case hl_back => k_is)
    (case hc_back => k_is)
    (case hk_back => k_is)
    (case ha_opposite => k_is)
    (case hl_opposite => k_is)
    (case hc_opposite => k_is)
    (case hk_opposite => k_is)
    (case ha_bits_of => k_is)
    (case hl_bits_of => k_is)
    (case hc_bits_of => k_is)
    (case hk_bits_of => k_is)
    (case ha_raised => k_is)
    (case hl_raised => k_is)
    (case hc_raised => k_is)
    (case hk_raised => k_is)
    (case ha_grown => k_is)
    (case hl_grown => k_is)
    (case hc_grown => k_is)
    (case hk_grown => k_is)
    (case ha_great => k_is)
    (case hl_great => k_is)
    (case hc_great => k_is)
    (case hk_great => k_is)
    (case ha_is_above => k_is)
    (case hl_is_above => k_is)
    (case hc_is_above => k_is)
    (case hk_is_above => k_is)
    (case ha_is_discriminant => k_is)
    (case hl_is_discriminant => k_is)
    (case hc_is_discriminant => k_is)
    (case hk_is_discriminant => k_is)
    (case ha_is_free => k_is)
    (case hl_is_free => k_is)
    (case hc_is_free => k_is)
    (case hk_is_free => k_is)
    (case ha_is_unit => k_is)
    (case hl_is_unit => k_is)
    (case hc_is_unit => k_is)
    (case hk_is_unit => k_is)
    (case ha_unit_norm => k_is)
    (case hl_unit_norm => k_is)
    (case hc_unit_norm => k_is)
    (case hk_unit_norm => k_is)
    (case ha_unit_product => k_is)
    (case hl_unit_product => k_is)
    (case hc_unit_product => k_is)
    (case hk_unit_product => k_is)
    (case ha_unit_back => k_is)
    (case hl_unit_back => k_is)
    (case hc_unit_back => k_is)
    (case hk_unit_back => k_is)
    (case ha_unit_opposite => k_is)
    (case hl_unit_opposite => k_is)
    (case hc_unit_opposite => k_is)
    (case hk_unit_opposite => k_is)
    (case ha_unit_power => k_is)
    (case hl_unit_power => k_is)
    (case hc_unit_power => k_is)
    (case hk_unit_power => k_is)
    (case ha_is_above_one => k_is)
    (case hl_is_above_one => k_is)
    (case hc_is_above_one => k_is)
    (case hk_is_above_one => k_is)
    (case ha_law_cup => k_is)
    (case hl_law_cup => k_is)
    (case hc_law_cup => k_is)
    (case hk_law_cup => k_is)
    (case ha_law_roll => k_is)
    (case hl_law_roll => k_is)
    (case hc_law_roll => k_is)
    (case hk_law_roll => k_is)
    (case ha_law_some => k_is)
    (case hl_law_some => k_is)
    (case hc_law_some => k_is)
    (case hk_law_some => k_is)
    (case ha_law_sort => k_is)
    (case hl_law_sort => k_is)
    (case hc_law_sort => k_is)
    (case hk_law_sort => k_is)
    (case ha_law_like => k_is)
    (case hl_law_like => k_is)
    (case hc_law_like => k_is)
    (case hk_law_like => k_is)
    (case ha_law_root => k_is)
    (case hl_law_root => k_is)
    (case hc_law_root => k_is)
    (case hk_law_root => k_is)
    (case ha_law_is_unit => k_is)
    (case hl_law_is_unit => k_is)
    (case hc_law_is_unit => k_is)
    (case hk_law_is_unit => k_is)
    (case ha_law_norm => k_is)
    (case hl_law_norm => k_is)
    (case hc_law_norm => k_is)
    (case hk_law_norm => k_is)
    (case ha_law_times => k_is)
    (case hl_law_times => k_is)
    (case hc_law_times => k_is)
    (case hk_law_times => k_is)
    (case ha_law_power => k_is)
    (case hl_law_power => k_is)
    (case hc_law_power => k_is)
    (case hk_law_power => k_is)
    (case ha_law_first => k_is)
    (case hl_law_first => k_is)
    (case hc_law_first => k_is)
    (case hk_law_first => k_is)
    (case ha_law_error => k_is)
    (case hl_law_error => k_is)
    (case hc_law_error => k_is)
    (case hk_law_error => k_is)
    (case ha_law_number => k_is)
    (case hl_law_number => k_is)
    (case hc_law_number => k_is)
    (case hk_law_number => k_is)
    (case ha_law_unit => k_is)
    (case hl_law_unit => k_is)
    (case hc_law_unit => k_is)
    (case hk_law_unit => k_is)
    (case ha_law_is_free => k_is)
    (case hl_law_is_free => k_is)
    (case hc_law_is_free => k_is)
    (case hk_law_is_free => k_is)
    (case ha_law_near => k_is)
    (case hl_law_near => k_is)
    (case hc_law_near => k_is)
    (case hk_law_near => k_is)
    (case ha_law_right => k_is)
    (case hl_law_right => k_is)
    (case hc_law_right => k_is)
    (case hk_law_right => k_is)
    (case ht_law_right => exact ⟨PySem.W.km_tabs_of Y _ ((List.mem_cons_of_mem _ (List.mem_cons_of_mem _ List.mem_cons_self))), by kernel_rfl⟩)
    (case hn_law_right => kernel_rfl)
    (case ha_law_ten => k_is)
    (case hl_law_ten => k_is)
    (case hc_law_ten => k_is)
    (case hk_law_ten => k_is)
    (case ha_law_digits_right => k_is)
    (case hl_law_digits_right => k_is)
    (case hc_law_digits_right => k_is)
    (case hk_law_digits_right => k_is)
    (case ht_law_digits_right => exact ⟨PySem.W.km_tabs_of Y _ ((List.mem_cons_of_mem _ List.mem_cons_self)), by kernel_rfl⟩)
    (case hn_law_digits_right => kernel_rfl)
    (case ha_law_errors_right => k_is)
    (case hl_law_errors_right => k_is)
    (case hc_law_errors_right => k_is)
    (case hk_law_errors_right => k_is)
    (case ht_law_errors_right => exact ⟨PySem.W.km_tabs_of Y _ List.mem_cons_self, by kernel_rfl⟩)
    (case hn_law_errors_right => kernel_rfl)
    (case ha_law => k_is)
    (case hl_law => k_is)
    (case hc_law => k_is)
    (case hk_law => k_is)
    (case hb_abs => k_is)
    (case hb_all => k_is)
    (case hb_bool => k_is)
    (case hb_int => k_is)
    (case hb_isinstance => k_is)
    (case hb_len => k_is)
    (case hb_list => k_is)
    (case hb_range => k_is)
    (case hb_str => k_is)
    (case hb_tuple => k_is)
    (case hb_zip => k_is)
    (case hv_MOST => k_is)
    (case hv_DIGITS => k_is)
    (case hv_OFTEN => k_is)
    (case hv_ONE => k_is)
    (case hkt_ONE => kernel_rfl)
    (case hg_WholeError => k_is)
    (case hx_WholeError => k_exc)
    (case hK_WholeError => k_is)
    (case hB_WholeError => k_is)
    (case hT_WholeError => k_is)
    (case hI_WholeError => k_is)
    (case e1_WholeError => k_is)
    (case e2_WholeError => k_is)
    (case e3_WholeError => k_is)
    (case e4_WholeError => k_is)
    (case e5_WholeError => k_is)
    (case hg_InvalidNumber => k_is)
    (case hx_InvalidNumber => k_exc)
    (case hK_InvalidNumber => k_is)
    (case hB_InvalidNumber => k_is)
    (case hT_InvalidNumber => k_is)
    (case hI_InvalidNumber => k_is)
    (case e1_InvalidNumber => k_is)
    (case e2_InvalidNumber => k_is)
    (case e3_InvalidNumber => k_is)
    (case e4_InvalidNumber => k_is)
    (case e5_InvalidNumber => k_is)
    (case hg_InvalidUnit => k_is)
    (case hx_InvalidUnit => k_exc)
    (case hK_InvalidUnit => k_is)
    (case hB_InvalidUnit => k_is)
    (case hT_InvalidUnit => k_is)
    (case hI_InvalidUnit => k_is)
    (case e1_InvalidUnit => k_is)
    (case e2_InvalidUnit => k_is)
    (case e3_InvalidUnit => k_is)
    (case e4_InvalidUnit => k_is)
    (case e5_InvalidUnit => k_is)
    (case hg_NotNow => k_is)
    (case hx_NotNow => k_exc)
    (case hK_NotNow => k_is)
    (case hB_NotNow => k_is)
    (case hT_NotNow => k_is)
    (case hI_NotNow => k_is)
    (case e1_NotNow => k_is)
    (case e2_NotNow => k_is)
    (case e3_NotNow => k_is)
    (case e4_NotNow => k_is)
    (case e5_NotNow => k_is)
    (case hg_TooMany => k_is)
    (case hK_TooMany => k_is)
    (case hB_TooMany => k_is)
    (case hT_TooMany => k_is)
    (case hI_TooMany => k_is)
    (case e1_TooMany => k_is)
    (case e2_TooMany => k_is)
    (case e3_TooMany => k_is)
    (case e4_TooMany => k_is)
    (case e5_TooMany => k_is)
    (case e6 => k_is)
    (case e7 => k_is)
    (case hs_0_0 => first | rfl | k_is)
    (case hs_0_1 => first | rfl | k_is)
    (case hs_0_2 => first | rfl | k_is)
    (case hs_0_3 => first | rfl | k_is)
    (case hs_0_4 => first | rfl | k_is)
    (case hs_1_0 => first | rfl | k_is)
    (case hs_1_1 => first | rfl | k_is)
    (case hs_1_2 => first | rfl | k_is)
    (case hs_1_3 => first | rfl | k_is)
    (case hs_1_4 => first | rfl | k_is)
    (case hs_2_0 => first | rfl | k_is)
    (case hs_2_1 => first | rfl | k_is)
    (case hs_2_2 => first | rfl | k_is)
    (case hs_2_3 => first | rfl | k_is)
    (case hs_2_4 => first | rfl | k_is)
    (case hs_3_0 => first | rfl | k_is)
    (case hs_3_1 => first | rfl | k_is)
    (case hs_3_2 => first | rfl | k_is)
    (case hs_3_3 => first | rfl | k_is)
    (case hs_3_4 => first | rfl | k_is)
    (case hs_4_0 => first | rfl | k_is)
    (case hs_4_1 => first | rfl | k_is)
    (case hs_4_2 => first | rfl | k_is)
    (case hs_4_3 => first | rfl | k_is)
    (case hs_4_4 => first | rfl | k_is)
    (case hL_f => k_is)
    (case hL_t => k_is)
    (case hL_l => k_is)
    (case hL_b => exact rfl)
    (case hL_c => k_is)
    (case hL_d => k_is)
    (case hL_v => exact rfl)
    (case hL_e => kernel_rfl)
    (case hL_x => k_is)
    (case hL_m => k_is)
    (case hL_s => kernel_rfl)
    (case hL_B => k_is)
    (case hL_a => k_is)
    (case hL_n => k_is)
    (case hL_q => k_is)
    (case hL_o => k_is)
    (case hL_r => kernel_rfl)
    (case hL_S => k_is)
    (case hL_T => kernel_rfl)
    (case hL_ev => exact ⟨_, fun _ => rfl⟩)
    (case hz => decide)
