import PyProof.Rows.All
import Wide.All
import OpenK.AllK
import Wide.FinOn
import HandS.ForMost
import HandS.ForExc
import HandS.Lambda
import KE.KLam
import HandS.TupAny
import HandS.Style
import HandS.Walk
import HandS.Zip
import HandS.CallSlots
import HandS.ExcOwn
import HandS.WordsExc
import HandS.Defaults
import HandS.ExcCtx
import KE.GoesMore
import KE.GoesEnum
import HandS.IsInst
import HandS.SetFor
import HandS.Strs
import HandS.ListItems
import HandS.SortRule
import HandS.DictTup
import HandS.HotCalls
import HandS.SuiteRaise
import HandS.ExcIs
import HandS.Text
import HandS.HeadHook2
import HandS.Iter
import HandS.ExcInit
import HandS.ExcField
import HandS.Conv
import HandS.More
import HandS.Small
import KE.GoesZip
import HandS.GenList
import PyProof.ForAppend
import PyProof.Walks
import PyProof.GenComp
import HandS.NoneIn
import HandS.Star
import HandS.TupMul
import KE.KStateDown
import HandS.Ends
import HandS.Head0
import HandS.Head1
import HandS.Head2
import HandS.HeadEnd
import HandS.HeadWalk
import HandS.HeadHook1
import PySem.Challenge.RW_lapsepoints_k12_whole_lives_told_back
import HandS.HeadHook3
import HandS.HeadHook4
set_option Elab.async false
set_option linter.all false
set_option maxRecDepth 100000
set_option maxHeartbeats 2000000
/-! D0: data without addresses (D), how HandS's values stand for them (Rep), the state of a body over data (Sat), judgements over data. -/
namespace Dl
open PySem PySem.Spec PyProof.Rows L2

inductive D where
  | non | bl (b : Bool) | int (i : Int) | str (x : Str) | ty (n : String) | obj (a : Addr) | tup (xs : List D) | lst (xs : List D)

mutual
inductive Rep (K : PySem.W.Frag) (F : Hp) : V → D → Prop
  | non : Rep K F .non .non
  | bl (b : Bool) : Rep K F (.bl b) (.bl b)
  | int (i : Int) : Rep K F (.int i) (.int i)
  | str (x : Str) : Rep K F (.str x) (.str x)
  | ty (n : String) : Rep K F (.ty n) (.ty n)
  | obj (a : Addr) : Rep K F (.ref a) (.obj a)
  | tup {a : Addr} {vs : List V} {ds : List D} : SqT K F a vs → Reps K F vs ds → Rep K F (.ref a) (.tup ds)
  | lst {a : Addr} {vs : List V} {ds : List D} : SqL K F a vs → Reps K F vs ds → Rep K F (.ref a) (.lst ds)
inductive Reps (K : PySem.W.Frag) (F : Hp) : List V → List D → Prop
  | nil : Reps K F [] []
  | cons {v : V} {d : D} {vs : List V} {ds : List D} : Rep K F v d → Reps K F vs ds → Reps K F (v :: vs) (d :: ds)
end

theorem sqL_mono {K : PySem.W.Frag} {F F' : Hp} {a : Addr} {xs : List V} (e : Same F F') (h : SqL K F a xs) : SqL K F' a xs := e.seq h
theorem sqT_mono {K : PySem.W.Frag} {F F' : Hp} {a : Addr} {xs : List V} (e : Same F F') (h : SqT K F a xs) : SqT K F' a xs := by
  rcases h with (h | ⟨o, h⟩) | h
  · exact .inl (.inl (e _ _ h))
  · exact .inl (.inr ⟨o, e _ _ h⟩)
  · exact .inr h
mutual
theorem Rep.mono {K : PySem.W.Frag} {F F' : Hp} (e : Same F F') : ∀ {v : V} {d : D}, Rep K F v d → Rep K F' v d
  | _, _, .non => .non
  | _, _, .bl b => .bl b
  | _, _, .int i => .int i
  | _, _, .str x => .str x
  | _, _, .ty n => .ty n
  | _, _, .obj a => .obj a
  | _, _, .tup h r => .tup (sqT_mono e h) (Reps.mono e r)
  | _, _, .lst h r => .lst (sqL_mono e h) (Reps.mono e r)
theorem Reps.mono {K : PySem.W.Frag} {F F' : Hp} (e : Same F F') : ∀ {vs : List V} {ds : List D}, Reps K F vs ds → Reps K F' vs ds
  | _, _, .nil => .nil
  | _, _, .cons h r => .cons (Rep.mono e h) (Reps.mono e r)
end
section
variable {K : PySem.W.Frag} {F : Hp}
theorem Reps.length : ∀ {vs : List V} {ds : List D}, Reps K F vs ds → vs.length = ds.length
  | _, _, .nil => rfl
  | _, _, .cons _ r => by rw [List.length_cons, List.length_cons, Reps.length r]
theorem Reps.get : ∀ {vs : List V} {ds : List D} {i : Nat} {d : D}, Reps K F vs ds → ds[i]? = some d → ∃ v, vs[i]? = some v ∧ Rep K F v d
  | _, _, _, _, .nil, e => by simp at e
  | _, _, 0, _, .cons r _, e => by simp at e; subst e; exact ⟨_, rfl, r⟩
  | _, _, i + 1, d, .cons _ t, e => by
    obtain ⟨v, h1, h2⟩ := Reps.get (i := i) (d := d) t (by simpa using e)
    exact ⟨v, by simpa using h1, h2⟩
theorem Reps.get' : ∀ {vs : List V} {ds : List D} {i : Nat} {v : V}, Reps K F vs ds → vs[i]? = some v → ∃ d, ds[i]? = some d ∧ Rep K F v d
  | _, _, _, _, .nil, e => by simp at e
  | _, _, 0, _, .cons r _, e => by simp at e; subst e; exact ⟨_, rfl, r⟩
  | _, _, i + 1, v, .cons _ t, e => by
    obtain ⟨d, h1, h2⟩ := Reps.get' (i := i) (v := v) t (by simpa using e)
    exact ⟨d, by simpa using h1, h2⟩
theorem Reps.append : ∀ {vs ws : List V} {ds es : List D}, Reps K F vs ds → Reps K F ws es → Reps K F (vs ++ ws) (ds ++ es)
  | _, _, _, _, .nil, s => s
  | _, _, _, _, .cons r t, s => .cons r (Reps.append t s)
theorem Reps.set {v : V} {d : D} (r : Rep K F v d) : ∀ {vs : List V} {ds : List D} (i : Nat), Reps K F vs ds → Reps K F (vs.set i v) (ds.set i d)
  | _, _, _, .nil => .nil
  | _, _, 0, .cons _ t => .cons r t
  | _, _, i + 1, .cons q t => .cons q (Reps.set r i t)
theorem Reps.take : ∀ {vs : List V} {ds : List D} (n : Nat), Reps K F vs ds → Reps K F (vs.take n) (ds.take n)
  | _, _, 0, _ => .nil
  | _, _, _ + 1, .nil => .nil
  | _, _, n + 1, .cons r t => .cons r (Reps.take n t)
theorem Reps.drop : ∀ {vs : List V} {ds : List D} (n : Nat), Reps K F vs ds → Reps K F (vs.drop n) (ds.drop n)
  | _, _, 0, r => r
  | _, _, _ + 1, .nil => .nil
  | _, _, n + 1, .cons _ t => Reps.drop n t
theorem Reps.eraseIdx : ∀ {vs : List V} {ds : List D} (n : Nat), Reps K F vs ds → Reps K F (vs.eraseIdx n) (ds.eraseIdx n)
  | _, _, _, .nil => .nil
  | _, _, 0, .cons _ t => t
  | _, _, n + 1, .cons r t => .cons r (Reps.eraseIdx n t)
theorem Reps.dropLast {vs : List V} {ds : List D} (h : Reps K F vs ds) : Reps K F vs.dropLast ds.dropLast := by
  rw [List.dropLast_eq_take, List.dropLast_eq_take, h.length]
  exact h.take _
theorem Reps.reverse : ∀ {vs : List V} {ds : List D}, Reps K F vs ds → Reps K F vs.reverse ds.reverse
  | _, _, .nil => .nil
  | _, _, .cons r t => by
    rw [List.reverse_cons, List.reverse_cons]
    exact (Reps.reverse t).append (.cons r .nil)
theorem reps_ints : ∀ {ns : List Int} {vs : List V}, Reps K F vs (ns.map D.int) → vs = ns.map V.int
  | [], _, .nil => rfl
  | n :: ns, _, .cons (.int _) t => by rw [List.map_cons, reps_ints t]
theorem ints_reps : ∀ (ns : List Int), Reps K F (ns.map V.int) (ns.map D.int)
  | [] => .nil
  | n :: ns => .cons (.int n) (ints_reps ns)
theorem reps_bls : ∀ {ns : List Bool} {vs : List V}, Reps K F vs (ns.map D.bl) → vs = ns.map V.bl
  | [], _, .nil => rfl
  | n :: ns, _, .cons (.bl _) t => by rw [List.map_cons, reps_bls t]
theorem reps_strs : ∀ {ns : List Str} {vs : List V}, Reps K F vs (ns.map D.str) → vs = ns.map V.str
  | [], _, .nil => rfl
  | n :: ns, _, .cons (.str _) t => by rw [List.map_cons, reps_strs t]
end

/-! ### owned objects -/
/-- the table at P: the codes in it are frozen in F, of the name q -/
def TabF (F H : Hp) (P : Addr) (q : Str) : Prop := ∃ ps : Array Value, H P = some (.tbl ps) ∧ TriplesOk ps.toList ∧ ∀ (pos : Pos) (cv : Value), codeAmong pos ps.toList = some cv → ∃ c, cv = .ref c ∧ F c = some (LamX.CodeO c q)
theorem TabF.mono {F F' H H' : Hp} {P : Addr} {q : Str} (h : TabF F H P q) (e : Same F F') (k : H' P = H P) : TabF F' H' P q := by
  obtain ⟨ps, h1, h2, h3⟩ := h
  refine ⟨ps, k.trans h1, h2, fun pos cv z => ?_⟩
  obtain ⟨c, e1, e2⟩ := h3 pos cv z
  exact ⟨c, e1, e _ _ e2⟩
/-- a lambda without captured names: its words -/
structure LamW where
  params : Arguments
  body : Expr
  scope : Scope
  q : Str
/-- the object at f is this lambda, c its code object -/
def LamO (f : Addr) (L : LamW) (c : Addr) : HO := .ext fun h => ∃ pm ctv : Value, h.get? f = some (PySem.W.kla_obj "<lambda>" L.q L.params L.body L.scope [] pm c ctv)
/-- .. with a closure -/
def LamOC (f : Addr) (L : LamW) (cl : List (Str × Addr)) (c : Addr) : HO := .ext fun h => ∃ pm ctv : Value, h.get? f = some (PySem.W.kla_obj "<lambda>" L.q L.params L.body L.scope cl pm c ctv)
/-- the object at c is this cell -/
def CelO (c : Addr) (o : Obj) : HO := .ext fun h => h.get? c = some o
/-- what is owned (frd: a dict of ints that is locked, being walked; cel: a cell that is lent) -/
inductive OV where
  | cel (o : Obj) (d : D)
  | lamc (L : LamW) (cl : List (Str × Addr))
  | frd (od : Obj) (tb : List (Int × Int))
  | lam (L : LamW)
  | tab (q : Str)
  | lst (ds : List D)
  | dic (kvs : List (Key × D))
  | ins (C dx : Addr) (fs : List (Str × D))
abbrev Own := List (Addr × OV)
def PReps {κ : Type} (K : PySem.W.Frag) (F : Hp) : List (κ × V) → List (κ × D) → Prop := Paired fun p q => p.1 = q.1 ∧ Rep K F p.2 q.2
theorem PReps.mono {κ : Type} {K : PySem.W.Frag} {F F' : Hp} (e : Same F F') {a : List (κ × V)} {b : List (κ × D)} (h : PReps K F a b) : PReps K F' a b := Paired.mapP h fun _ _ q => ⟨q.1, q.2.mono e⟩
def ORep (K : PySem.W.Frag) (F H : Hp) (a : Addr) : OV → Prop
  | .cel o d => H a = some (CelO a o) ∧ ∃ (u : Value) (v : V), o.data = .cell (some u) ∧ RelV v u ∧ Rep K F v d
  | .lamc L cl => ∃ c, H a = some (LamOC a L cl c) ∧ F c = some (LamX.CodeO c L.q)
  | .frd od tb => H a = some (.frz od (.dK (tb.map fun q => ((Sum.inl q.1 : Key), V.int q.2))))
  | .lam L => ∃ c, H a = some (LamO a L c) ∧ F c = some (LamX.CodeO c L.q)
  | .tab q => TabF F H a q
  | .lst ds => ∃ vs, H a = some (.lst vs) ∧ Reps K F vs ds
  | .dic kvs => ∃ ks, H a = some (.dK ks) ∧ PReps K F ks kvs
  | .ins C dx fs => ∃ gs, H a = some (.ins C dx gs) ∧ PReps K F gs fs
theorem ORep.there {K : PySem.W.Frag} {F H : Hp} {a : Addr} {ov : OV} (h : ORep K F H a ov) : ∃ o, H a = some o := by
  cases ov with
  | cel o d => exact ⟨_, h.1⟩
  | lamc L cl => obtain ⟨_, h, _⟩ := h; exact ⟨_, h⟩
  | frd od tb => exact ⟨_, h⟩
  | lam L => obtain ⟨_, h, _⟩ := h; exact ⟨_, h⟩
  | tab q => obtain ⟨_, h, _⟩ := h; exact ⟨_, h⟩
  | lst ds => obtain ⟨_, h, _⟩ := h; exact ⟨_, h⟩
  | dic ds => obtain ⟨_, h, _⟩ := h; exact ⟨_, h⟩
  | ins C dx fs => obtain ⟨_, h, _⟩ := h; exact ⟨_, h⟩
theorem ORep.mono {K : PySem.W.Frag} {F F' H H' : Hp} {a : Addr} {ov : OV} (h : ORep K F H a ov) (e : Same F F') (k : H' a = H a) : ORep K F' H' a ov := by
  cases ov with
  | cel o d => obtain ⟨h1, u, v, h2, h3, h4⟩ := h; exact ⟨k.trans h1, u, v, h2, h3, h4.mono e⟩
  | lamc L cl => obtain ⟨c, h1, h2⟩ := h; exact ⟨c, k.trans h1, e _ _ h2⟩
  | frd od tb => exact k.trans h
  | lam L => obtain ⟨c, h1, h2⟩ := h; exact ⟨c, k.trans h1, e _ _ h2⟩
  | tab q => exact TabF.mono h e k
  | lst ds => obtain ⟨vs, h1, h2⟩ := h; exact ⟨vs, k.trans h1, h2.mono e⟩
  | dic ds => obtain ⟨vs, h1, h2⟩ := h; exact ⟨vs, k.trans h1, h2.mono e⟩
  | ins C dx fs => obtain ⟨vs, h1, h2⟩ := h; exact ⟨vs, k.trans h1, h2.mono e⟩
def keys (O : Own) : List Addr := O.map (·.1)
theorem mem_keys {O : Own} {p : Addr × OV} (h : p ∈ O) : p.1 ∈ keys O := List.mem_map.mpr ⟨p, h, rfl⟩
/-- the content at a replaced -/
inductive OSet : Own → Addr → OV → Own → Prop
  | z {a : Addr} {ov ov' : OV} {r : Own} : OSet ((a, ov) :: r) a ov' ((a, ov') :: r)
  | s {x : Addr × OV} {a : Addr} {ov' : OV} {r r' : Own} : OSet r a ov' r' → OSet (x :: r) a ov' (x :: r')
/-- the entry taken out -/
inductive ODel : Own → Addr → OV → Own → Prop
  | z {a : Addr} {ov : OV} {r : Own} : ODel ((a, ov) :: r) a ov r
  | s {x : Addr × OV} {a : Addr} {ov : OV} {r r' : Own} : ODel r a ov r' → ODel (x :: r) a ov (x :: r')
theorem OSet.keys_eq : ∀ {O O' : Own} {a : Addr} {ov' : OV}, OSet O a ov' O' → keys O' = keys O
  | _, _, _, _, .z => rfl
  | _, _, _, _, .s (x := x) h => by
    show x.1 :: keys _ = x.1 :: keys _
    rw [OSet.keys_eq h]
theorem OSet.mem : ∀ {O O' : Own} {a : Addr} {ov' : OV}, OSet O a ov' O' → a ∈ keys O
  | _, _, _, _, .z => List.mem_cons_self
  | _, _, _, _, .s h => List.mem_cons_of_mem _ (OSet.mem h)
theorem OSet.of_mem : ∀ {O O' : Own} {a : Addr} {ov' : OV}, OSet O a ov' O' → (keys O).Nodup → ∀ p ∈ O', (p = (a, ov')) ∨ (p ∈ O ∧ p.1 ≠ a)
  | _, _, _, _, .z, nd, p, hp => by
    rcases List.mem_cons.mp hp with e | hp
    · exact .inl e
    · refine .inr ⟨List.mem_cons_of_mem _ hp, fun e => ?_⟩
      have q := (List.nodup_cons.mp nd).1
      have z := mem_keys hp
      rw [e] at z
      exact q z
  | _, _, _, _, .s h, nd, p, hp => by
    rcases List.mem_cons.mp hp with e | hp
    · subst e
      refine .inr ⟨List.mem_cons_self, fun e => ?_⟩
      have q := (List.nodup_cons.mp nd).1
      have z := OSet.mem h
      rw [← e] at z
      exact q z
    · rcases OSet.of_mem h (List.nodup_cons.mp nd).2 p hp with q | ⟨q1, q2⟩
      · exact .inl q
      · exact .inr ⟨List.mem_cons_of_mem _ q1, q2⟩
theorem ODel.sub : ∀ {O O' : Own} {a : Addr} {ov : OV}, ODel O a ov O' → ∀ p ∈ O', p ∈ O
  | _, _, _, _, .z, p, hp => List.mem_cons_of_mem _ hp
  | _, _, _, _, .s h, p, hp => by
    rcases List.mem_cons.mp hp with e | hp
    · subst e; exact List.mem_cons_self
    · exact List.mem_cons_of_mem _ (ODel.sub h p hp)
theorem ODel.mem : ∀ {O O' : Own} {a : Addr} {ov : OV}, ODel O a ov O' → (a, ov) ∈ O
  | _, _, _, _, .z => List.mem_cons_self
  | _, _, _, _, .s h => List.mem_cons_of_mem _ (ODel.mem h)
theorem keys_mem {O : Own} {a : Addr} (h : a ∈ keys O) : ∃ ov, (a, ov) ∈ O := by
  obtain ⟨p, hp, e⟩ := List.mem_map.mp h
  exact ⟨p.2, by rw [← e]; exact hp⟩
theorem ODel.keys_sub {O O' : Own} {a : Addr} {ov : OV} (h : ODel O a ov O') {b : Addr} (hb : b ∈ keys O') : b ∈ keys O := by
  obtain ⟨ov, q⟩ := keys_mem hb
  exact mem_keys (h.sub _ q)
theorem ODel.nd : ∀ {O O' : Own} {a : Addr} {ov : OV}, ODel O a ov O' → (keys O).Nodup → (keys O').Nodup ∧ a ∉ keys O'
  | _, _, _, _, .z, nd => ⟨(List.nodup_cons.mp nd).2, (List.nodup_cons.mp nd).1⟩
  | _, _, _, _, .s (x := x) h, nd => by
    obtain ⟨n1, n2⟩ := List.nodup_cons.mp nd
    obtain ⟨q1, q2⟩ := ODel.nd h n2
    refine ⟨List.nodup_cons.mpr ⟨fun e => n1 (h.keys_sub e), q1⟩, fun e => ?_⟩
    rcases List.mem_cons.mp e with e | e
    · exact n1 (e ▸ mem_keys h.mem)
    · exact q2 e

/-! ### the state -/
structure Bs where
  F : Hp
  H : Hp
  O : List Addr
abbrev Sl := List (Option D)
structure Sat (K : PySem.W.Frag) (B : Bs) (G : Sl) (O : Own) (F : Hp) (σ : L2.St) (H : Hp) : Prop where
  len : σ.length = G.length
  slot : ∀ (i : Nat) (d : D), G[i]? = some (some d) → ∃ v, σ[i]? = some (some v) ∧ Rep K F v d
  ex : Same F H
  nd : (keys O).Nodup
  own : ∀ p ∈ O, F p.1 = none ∧ ORep K F H p.1 p.2
  bF : Same B.F F
  bH : ∀ a o, B.H a = some o → B.F a = none → a ∉ B.O → H a = some o ∧ F a = none ∧ a ∉ keys O
section
variable {K : PySem.W.Frag} {B : Bs} {G : Sl} {O O' : Own} {F H : Hp} {σ : L2.St}
theorem Sat.lt (S : Sat K B G O F σ H) {p : Addr × OV} (hp : p ∈ O) : ∃ o, H p.1 = some o := (S.own p hp).2.there
theorem Sat.fresh (S : Sat K B G O F σ H) {a : Addr} (h : H a = none) : F a = none ∧ a ∉ keys O := by
  refine ⟨S.ex.free h, fun hm => ?_⟩
  obtain ⟨ov, q⟩ := keys_mem hm
  obtain ⟨o, e⟩ := S.lt q
  rw [h] at e
  cases e
theorem same_upd {H : Hp} {p : Addr} {o : HO} (h : H p = none) : Same H (upd H p o) := fun b x e => by
  rw [upd_ne (ne_of_none e h)]
  exact e
/-- a new object that will not change -/
theorem Sat.alloc (S : Sat K B G O F σ H) {p : Addr} (hp : H p = none) (o : HO) : Sat K B G O (upd F p o) σ (upd H p o) := by
  obtain ⟨hF, hO⟩ := S.fresh hp
  have eF : Same F (upd F p o) := same_upd hF
  refine ⟨S.len, fun i d e => ?_, fun b u e => ?_, S.nd, fun q hq => ?_, S.bF.trans eF, fun a u e1 e2 e3 => ?_⟩
  · obtain ⟨v, h1, h2⟩ := S.slot i d e
    exact ⟨v, h1, h2.mono eF⟩
  · by_cases hb : b = p
    · subst hb
      rw [upd_same] at e ⊢
      exact e
    · rw [upd_ne hb] at e ⊢
      exact S.ex b u e
  · have ne : q.1 ≠ p := fun z => hO (z ▸ mem_keys hq)
    refine ⟨by rw [upd_ne ne]; exact (S.own q hq).1, (S.own q hq).2.mono eF (upd_ne ne)⟩
  · obtain ⟨h1, h2, h3⟩ := S.bH a u e1 e2 e3
    have ne : a ≠ p := fun z => by rw [z, hp] at h1; cases h1
    exact ⟨by rw [upd_ne ne]; exact h1, by rw [upd_ne ne]; exact h2, h3⟩
/-- a new object that is owned -/
theorem Sat.allocOwn (S : Sat K B G O F σ H) {p : Addr} (hp : H p = none) {o : HO} {ov : OV} (ho : ORep K F (upd H p o) p ov) : Sat K B G ((p, ov) :: O) F σ (upd H p o) := by
  obtain ⟨hF, hO⟩ := S.fresh hp
  refine ⟨S.len, S.slot, S.ex.trans (same_upd hp), List.nodup_cons.mpr ⟨hO, S.nd⟩, fun q hq => ?_, S.bF, fun a u e1 e2 e3 => ?_⟩
  · rcases List.mem_cons.mp hq with e | hq
    · subst e
      exact ⟨hF, ho⟩
    · have ne : q.1 ≠ p := fun z => hO (z ▸ mem_keys hq)
      exact ⟨(S.own q hq).1, (S.own q hq).2.mono (Same.refl _) (upd_ne ne)⟩
  · obtain ⟨h1, h2, h3⟩ := S.bH a u e1 e2 e3
    have ne : a ≠ p := fun z => by rw [z, hp] at h1; cases h1
    refine ⟨by rw [upd_ne ne]; exact h1, h2, fun hm => ?_⟩
    rcases List.mem_cons.mp hm with z | z
    · exact ne z
    · exact h3 z
/-- an owned object changed -/
theorem Sat.mut (S : Sat K B G O F σ H) {p : Addr} {o : HO} {ov : OV} (hs : OSet O p ov O') (ho : ORep K F (upd H p o) p ov) : Sat K B G O' F σ (upd H p o) := by
  obtain ⟨ov0, hp0⟩ := keys_mem hs.mem
  have hF : F p = none := (S.own _ hp0).1
  refine ⟨S.len, S.slot, fun b u e => ?_, by rw [hs.keys_eq]; exact S.nd, fun q hq => ?_, S.bF, fun a u e1 e2 e3 => ?_⟩
  · rw [upd_ne (ne_of_none e hF)]
    exact S.ex b u e
  · rcases hs.of_mem S.nd q hq with e | ⟨hq, ne⟩
    · subst e
      exact ⟨hF, ho⟩
    · exact ⟨(S.own q hq).1, (S.own q hq).2.mono (Same.refl _) (upd_ne ne)⟩
  · obtain ⟨h1, h2, h3⟩ := S.bH a u e1 e2 e3
    have ne : a ≠ p := fun z => h3 (z ▸ hs.mem)
    exact ⟨by rw [upd_ne ne]; exact h1, h2, by rw [hs.keys_eq]; exact h3⟩
/-- an owned object is forgotten -/
theorem Sat.sub (S : Sat K B G O F σ H) (hs : ∀ p ∈ O', p ∈ O) (nd : (keys O').Nodup) : Sat K B G O' F σ H :=
  ⟨S.len, S.slot, S.ex, nd, fun q hq => S.own q (hs q hq), S.bF, fun a u e1 e2 e3 => by
    obtain ⟨h1, h2, h3⟩ := S.bH a u e1 e2 e3
    refine ⟨h1, h2, fun hm => ?_⟩
    obtain ⟨ov, q⟩ := keys_mem hm
    exact h3 (mem_keys (hs _ q))⟩
/-- an owned list will not change any more -/
theorem Sat.freeze (S : Sat K B G O F σ H) {p : Addr} {ds : List D} (hd : ODel O p (.lst ds) O') :
    ∃ vs, H p = some (.lst vs) ∧ Reps K F vs ds ∧ Same F (upd F p (.lst vs)) ∧ Sat K B G O' (upd F p (.lst vs)) σ H := by
  obtain ⟨hF, vs, hv, hr⟩ := S.own _ hd.mem
  have hv : H p = some (.lst vs) := hv
  have hF : F p = none := hF
  have eF : Same F (upd F p (.lst vs)) := same_upd hF
  obtain ⟨n1, n2⟩ := hd.nd S.nd
  refine ⟨vs, hv, hr, eF, S.len, fun i d e => ?_, fun b u e => ?_, n1, fun q hq => ?_, S.bF.trans eF, fun a u e1 e2 e3 => ?_⟩
  · obtain ⟨v, h1, h2⟩ := S.slot i d e
    exact ⟨v, h1, h2.mono eF⟩
  · by_cases hb : b = p
    · subst hb
      rw [upd_same] at e
      cases e
      exact hv
    · rw [upd_ne hb] at e
      exact S.ex b u e
  · have ne : q.1 ≠ p := fun z => n2 (z ▸ mem_keys hq)
    exact ⟨by rw [upd_ne ne]; exact (S.own q (hd.sub q hq)).1, (S.own q (hd.sub q hq)).2.mono eF rfl⟩
  · obtain ⟨h1, h2, h3⟩ := S.bH a u e1 e2 e3
    have ne : a ≠ p := fun z => h3 (z ▸ mem_keys hd.mem)
    exact ⟨h1, by rw [upd_ne ne]; exact h2, fun hm => h3 (hd.keys_sub hm)⟩
theorem Sat.set (S : Sat K B G O F σ H) {i : Nat} {v : V} {d : D} (r : Rep K F v d) : Sat K B (G.set i (some d)) O F (σ.set i (some v)) H := by
  refine ⟨by rw [List.length_set, List.length_set]; exact S.len, fun j e h => ?_, S.ex, S.nd, S.own, S.bF, S.bH⟩
  by_cases hj : i = j
  · subst hj
    by_cases hl : i < G.length
    · rw [List.getElem?_set_self hl] at h
      cases h
      exact ⟨v, List.getElem?_set_self (by rw [S.len]; exact hl), r⟩
    · rw [List.getElem?_eq_none (by rw [List.length_set]; omega)] at h
      cases h
  · rw [List.getElem?_set_ne hj] at h ⊢
    exact S.slot j e h
/-- less is said of the slots -/
theorem Sat.weak (S : Sat K B G O F σ H) {G' : Sl} {σ' : L2.St} (hl : G'.length = G.length) (hl' : σ'.length = σ.length) (h : ∀ (i : Nat) (d : D), G'[i]? = some (some d) → G[i]? = some (some d) ∧ σ'[i]? = σ[i]?) : Sat K B G' O F σ' H :=
  ⟨by rw [hl, hl']; exact S.len, fun i d e => by
    obtain ⟨h1, h2⟩ := h i d e
    rw [h2]
    exact S.slot i d h1, S.ex, S.nd, S.own, S.bF, S.bH⟩
theorem Sat.slots {G' : Sl} {σ' : L2.St} (S : Sat K B G O F σ H) (hl : σ'.length = G'.length) (h : ∀ (i : Nat) (d : D), G'[i]? = some (some d) → ∃ v, σ'[i]? = some (some v) ∧ Rep K F v d) : Sat K B G' O F σ' H :=
  ⟨hl, h, S.ex, S.nd, S.own, S.bF, S.bH⟩
end
end Dl

set_option Elab.async false
set_option linter.all false
set_option maxRecDepth 100000
set_option maxHeartbeats 2000000
/-! D1: judgements over data; names, constants, arithmetic, comparisons, tests, subscripts, displays. -/
namespace Dl
open PySem PySem.Spec PyProof.Rows L2

/-- not *e -/
def plainB : Expr → Bool
  | .Starred _ _ => false
  | _ => true
theorem star_cons {e : Expr} {es : List Expr} {env : Env} (h : plainB e = true) : starEach (e :: es) env = (false, eval e env) :: starEach es env := by
  cases e <;> first | rfl | cases h
/-! ### the widest readings -/
section
variable (X : Cx)
structure tSem (e : Expr) (σ : L2.St) (H : Hp) (Q : VK) : Prop where
  run : ∀ (pins : List (Addr × Obj)) (s : Shared), Inv X pins σ H s → wpAny (model X.prog X.w) X.A (eval e X.env) (EP X pins σ Q) X.xe s
structure tSemT (e : Expr) (σ : L2.St) (H : Hp) (Q : Bool → Hp → Prop) : Prop where
  run : ∀ (pins : List (Addr × Obj)) (s : Shared), Inv X pins σ H s → wpAny (model X.prog X.w) X.A (isTrue e X.env (eval e X.env)) (TP X pins σ Q) X.xe s
structure tSemW (e : Expr) (σ : L2.St) (H : Hp) (Q : Bool → Hp → Prop) : Prop where
  run : ∀ (whole : Sem Value) (pins : List (Addr × Obj)) (s : Shared), Inv X pins σ H s → wpAny (model X.prog X.w) X.A (isTrue e X.env whole) (TP X pins σ Q) X.xe s
structure tSemA (es : List Expr) (σ : L2.St) (H : Hp) (Q : List V → Hp → Prop) : Prop where
  run : ∀ (pos : Pos) (pins : List (Addr × Obj)) (s : Shared), Inv X pins σ H s → wpAny (model X.prog X.w) X.A (spliced (backTo pos (starEach es X.env))) (AP X pins σ Q) X.xe s
structure tSemS (st : Stmt) (D : Ends) (σ : L2.St) (H : Hp) : Prop where
  run : ∀ (pins : List (Addr × Obj)) (s : Shared), Inv X pins σ H s → wpAny (model X.prog X.w) X.A (exec st X.env) (SP X pins D) X.xe s
structure tSemSs (st : List Stmt) (D : Ends) (σ : L2.St) (H : Hp) : Prop where
  run : ∀ (pins : List (Addr × Obj)) (s : Shared), Inv X pins σ H s → wpAny (model X.prog X.w) X.A (execs st X.env) (SP X pins D) X.xe s
structure tSemG (tg : Expr) (v : V) (σ : L2.St) (H : Hp) (Q : L2.St → Hp → Prop) : Prop where
  run : ∀ (pins : List (Addr × Obj)) (s : Shared) (u : Value), Inv X pins σ H s → RelV v u →
    wpAny (model X.prog X.w) X.A (assign tg X.env u) (fun _ s' => ∃ σ' H', Inv X pins σ' H' s' ∧ Q σ' H') X.xe s
structure tSemI (tg iter : Expr) (σ : L2.St) (H : Hp) (R : It → Hp → Prop) : Prop where
  run : ∀ (pins : List (Addr × Obj)) (s : Shared), Inv X pins σ H s →
    wpAny (model X.prog X.w) X.A (eval iter X.env) (fun v s1 => wpAny (model X.prog X.w) X.A (pyIter v) (PIE X pins σ tg R) X.xe s1) X.xe s
variable {X}
theorem pe_sem {e : Expr} : PE X e (tSem X e) := ⟨fun pins s _ _ _ I h => h.run pins s I⟩
theorem pt_sem {e : Expr} : PT X e (tSemT X e) := ⟨fun pins s _ _ _ I h => h.run pins s I⟩
theorem pw_sem {e : Expr} : PW X e (tSemW X e) := ⟨fun wh pins s _ _ _ I h => h.run wh pins s I⟩
theorem pa_sem {es : List Expr} : PA X es (tSemA X es) := ⟨fun pos pins s _ _ _ I h => h.run pos pins s I⟩
theorem ps_sem {st : Stmt} : PS X st (tSemS X st) := ⟨fun pins s _ _ _ I h => h.run pins s I⟩
theorem pss_sem {st : List Stmt} : PSs X st (tSemSs X st) := ⟨fun pins s _ _ _ I h => h.run pins s I⟩
theorem pg_sem {tg : Expr} : PG X tg (tSemG X tg) := ⟨fun pins s _ _ _ u _ I r h => h.run pins s u I r⟩
theorem pi_sem {tg iter : Expr} : PI X tg iter (tSemI X tg iter) := ⟨fun pins s _ _ _ I h => h.run pins s I⟩
theorem sem {e : Expr} {t : TE} {σ : L2.St} {H : Hp} {Q : VK} (h : PE X e t) (q : t σ H Q) : tSem X e σ H Q := ⟨fun pins s I => h.run pins s σ H Q I q⟩
theorem semT {e : Expr} {t : TT} {σ : L2.St} {H : Hp} {Q : Bool → Hp → Prop} (h : PT X e t) (q : t σ H Q) : tSemT X e σ H Q := ⟨fun pins s I => h.run pins s σ H Q I q⟩
theorem semW {e : Expr} {t : TT} {σ : L2.St} {H : Hp} {Q : Bool → Hp → Prop} (h : PW X e t) (q : t σ H Q) : tSemW X e σ H Q := ⟨fun wh pins s I => h.run wh pins s σ H Q I q⟩
theorem semA {es : List Expr} {t : TA} {σ : L2.St} {H : Hp} {Q : List V → Hp → Prop} (h : PA X es t) (q : t σ H Q) : tSemA X es σ H Q := ⟨fun pos pins s I => h.run pos pins s σ H Q I q⟩
theorem semS {st : Stmt} {t : TS} {σ : L2.St} {H : Hp} {D : Ends} (h : PS X st t) (q : t D σ H) : tSemS X st D σ H := ⟨fun pins s I => h.run pins s σ H D I q⟩
theorem semSs {st : List Stmt} {t : TS} {σ : L2.St} {H : Hp} {D : Ends} (h : PSs X st t) (q : t D σ H) : tSemSs X st D σ H := ⟨fun pins s I => h.run pins s σ H D I q⟩
theorem semG {tg : Expr} {t : TG} {v : V} {σ : L2.St} {H : Hp} {Q : L2.St → Hp → Prop} (h : PG X tg t) (q : t v σ H Q) : tSemG X tg v σ H Q := ⟨fun pins s u I r => h.run pins s σ H v u Q I r q⟩
theorem semI {tg iter : Expr} {t : TI} {σ : L2.St} {H : Hp} {R : It → Hp → Prop} (h : PI X tg iter t) (q : t σ H R) : tSemI X tg iter σ H R := ⟨fun pins s I => h.run pins s σ H R I q⟩
end

/-! ### the context's facts -/
structure Mach where
  P : Program
  w : World
  K : PySem.W.Frag
  mg : Str → Option Value
  base : Heap
def machOf (X : Cx) : Mach := ⟨X.prog, X.w, X.K, X.mg, X.base⟩
structure Cxt (M : Mach) (X : Cx) (N : List Str) (sc : Scope) (vb lb gb : Str → Bool) : Prop where
  hM : machOf X = M
  hN : X.N = N
  hsc : X.env.scope = sc
  kf : X.env.scope.kind = .function
  nd : N.Nodup
  calm : X.calm = true
  own : PassesOwn (model X.prog X.w) X.A X.env X.xe
  un : X.A.units + 64 < cLine
  vis : ∀ x, vb x = true → Vis X.env.scope x ∧ (x == ("__debug__" : Str)) = false ∧ (x == ("__classdict__" : Str)) = false
  loc : ∀ x, lb x = true → Loc X.env.scope x ∧ (X.fn x = true ∨ X.env.scope.names.lookup x = some .local)
  gl : ∀ x, gb x = true → Gl X x ∧ (x == ("__debug__" : Str)) = false
section
variable {M : Mach} {X : Cx} {N : List Str} {sc : Scope} {vb lb gb : Str → Bool} (C : Cxt M X N sc vb lb gb)
include C
theorem Cxt.K : X.K = M.K := by rw [← C.hM] <;> rfl
theorem Cxt.mg : X.mg = M.mg := by rw [← C.hM] <;> rfl
theorem Cxt.P : X.prog = M.P := by rw [← C.hM] <;> rfl
theorem Cxt.w : X.w = M.w := by rw [← C.hM] <;> rfl
theorem Cxt.base : X.base = M.base := by rw [← C.hM] <;> rfl
end
/-- the name's slot holds d -/
inductive VarAt : List Str → Sl → Str → D → Prop
  | z {x : Str} {N : List Str} {G : Sl} {d : D} : VarAt (x :: N) (some d :: G) x d
  | s {x y : Str} {N : List Str} {G : Sl} {d : D} {g : Option D} : VarAt N G x d → VarAt (y :: N) (g :: G) x d
theorem VarAt.ix : ∀ {N : List Str} {G : Sl} {x : Str} {d : D}, VarAt N G x d → ∃ i : Nat, N[i]? = some x ∧ G[i]? = some (some d)
  | _, _, _, _, .z => ⟨0, rfl, rfl⟩
  | _, _, _, _, .s h => by
    obtain ⟨i, h1, h2⟩ := VarAt.ix h
    exact ⟨i + 1, by simpa using h1, by simpa using h2⟩
/-- the name's slot is i; f: the slots with it set -/
inductive SetAt : List Str → Sl → Str → Nat → (D → Sl) → Prop
  | z {x : Str} {N : List Str} {G : Sl} {g : Option D} : SetAt (x :: N) (g :: G) x 0 (fun d => some d :: G)
  | s {x y : Str} {N : List Str} {G : Sl} {i : Nat} {f : D → Sl} {g : Option D} : SetAt N G x i f → SetAt (y :: N) (g :: G) x (i + 1) (fun d => g :: f d)
theorem SetAt.ix : ∀ {N : List Str} {G : Sl} {x : Str} {i : Nat} {f : D → Sl}, SetAt N G x i f → N[i]? = some x ∧ ∀ d, f d = G.set i (some d)
  | _, _, _, _, _, .z => ⟨rfl, fun _ => rfl⟩
  | _, _, _, _, _, .s h => by
    obtain ⟨h1, h2⟩ := SetAt.ix h
    exact ⟨by simpa using h1, fun d => by rw [List.set_cons_succ, ← h2]⟩

/-! ### the judgements -/
section
variable (X : Cx) (B : Bs) (G : Sl) (O : Own)
def WE (e : Expr) (Φ : D → Own → Prop) : Prop := ∀ F σ H, Sat X.K B G O F σ H → ∀ Q : VK, (∀ v F' H' d O', Sat X.K B G O' F' σ H' → Same F F' → Rep X.K F' v d → Φ d O' → Q v H') → tSem X e σ H Q
def WT (e : Expr) (Φ : Bool → Own → Prop) : Prop := ∀ F σ H, Sat X.K B G O F σ H → ∀ Q : Bool → Hp → Prop, (∀ b F' H' O', Sat X.K B G O' F' σ H' → Same F F' → Φ b O' → Q b H') → tSemT X e σ H Q
def WW (e : Expr) (Φ : Bool → Own → Prop) : Prop := ∀ F σ H, Sat X.K B G O F σ H → ∀ Q : Bool → Hp → Prop, (∀ b F' H' O', Sat X.K B G O' F' σ H' → Same F F' → Φ b O' → Q b H') → tSemW X e σ H Q
def WA (es : List Expr) (Φ : List D → Own → Prop) : Prop := ∀ F σ H, Sat X.K B G O F σ H → ∀ Q : List V → Hp → Prop, (∀ vs F' H' ds O', Sat X.K B G O' F' σ H' → Same F F' → Reps X.K F' vs ds → Φ ds O' → Q vs H') → tSemA X es σ H Q
/-- pure: nothing owned changes -/
def PEv (e : Expr) (d : D) : Prop := WE X B G O e fun d' O' => d' = d ∧ O' = O
def PTv (e : Expr) (b : Bool) : Prop := WT X B G O e fun b' O' => b' = b ∧ O' = O
def PAv (es : List Expr) (ds : List D) : Prop := WA X B G O es fun ds' O' => ds' = ds ∧ O' = O
end
section
variable {X : Cx} {B : Bs} {G : Sl} {O : Own} {e a b : Expr} {es : List Expr}
theorem WE.mono {Φ Ψ : D → Own → Prop} (h : WE X B G O e Φ) (k : ∀ d O', Φ d O' → Ψ d O') : WE X B G O e Ψ := fun F σ H S Q q => h F σ H S Q fun v F' H' d O' S' e' r p => q v F' H' d O' S' e' r (k d O' p)
theorem WT.mono {Φ Ψ : Bool → Own → Prop} (h : WT X B G O e Φ) (k : ∀ d O', Φ d O' → Ψ d O') : WT X B G O e Ψ := fun F σ H S Q q => h F σ H S Q fun v F' H' O' S' e' p => q v F' H' O' S' e' (k v O' p)
theorem WA.mono {Φ Ψ : List D → Own → Prop} (h : WA X B G O es Φ) (k : ∀ d O', Φ d O' → Ψ d O') : WA X B G O es Ψ := fun F σ H S Q q => h F σ H S Q fun v F' H' d O' S' e' r p => q v F' H' d O' S' e' r (k d O' p)
theorem we_pv {d : D} {Φ : D → Own → Prop} (h : PEv X B G O e d) (q : Φ d O) : WE X B G O e Φ := WE.mono h fun _ _ z => by rw [z.1, z.2]; exact q
theorem wt_pv {b : Bool} {Φ : Bool → Own → Prop} (h : PTv X B G O e b) (q : Φ b O) : WT X B G O e Φ := WT.mono h fun _ _ z => by rw [z.1, z.2]; exact q
theorem wa_pv {d : List D} {Φ : List D → Own → Prop} (h : PAv X B G O es d) (q : Φ d O) : WA X B G O es Φ := WA.mono h fun _ _ z => by rw [z.1, z.2]; exact q
theorem PEv.to {d d' : D} (h : PEv X B G O e d) (k : d = d') : PEv X B G O e d' := k ▸ h
theorem PTv.to {d d' : Bool} (h : PTv X B G O e d) (k : d = d') : PTv X B G O e d' := k ▸ h

/-! ### arguments -/
theorem wa_nil {Φ : List D → Own → Prop} (q : Φ [] O) : WA X B G O [] Φ := fun F σ H S Q k => semA pa_nil (k [] F H [] O S (Same.refl _) .nil q)
theorem wa_cons {Φ : List D → Own → Prop} (h : WE X B G O e fun d O1 => WA X B G O1 es fun ds O2 => Φ (d :: ds) O2) (hs : starEach (e :: es) X.env = (false, eval e X.env) :: starEach es X.env := by exact star_cons rfl) : WA X B G O (e :: es) Φ := fun F σ H S Q k => by
  refine semA (pa_cons pe_sem pa_sem hs) ?_
  refine h F σ H S _ fun v F1 H1 d O1 S1 e1 r1 p1 => ?_
  exact p1 F1 σ H1 S1 _ fun vs F2 H2 ds O2 S2 e2 r2 p2 => k _ F2 H2 _ O2 S2 (e1.trans e2) (.cons (r1.mono e2) r2) p2
theorem pa_nilv : PAv X B G O [] [] := wa_nil ⟨rfl, rfl⟩
theorem pa_consv {d : D} {ds : List D} (h : PEv X B G O e d) (hr : PAv X B G O es ds) (hs : starEach (e :: es) X.env = (false, eval e X.env) :: starEach es X.env := by exact star_cons rfl) : PAv X B G O (e :: es) (d :: ds) :=
  wa_cons (we_pv h (wa_pv hr ⟨rfl, rfl⟩)) hs

/-! ### constants -/
theorem we_c {v : V} {d : D} {Φ : D → Own → Prop} (h : PE X e (tC v)) (r : ∀ F, Rep X.K F v d) (q : Φ d O) : WE X B G O e Φ := fun F σ H S Q k => sem h (k v F H d O S (Same.refl _) (r F) q)
theorem pv_int {i : Int} {j pos} : PEv X B G O (.Constant (.int i) j pos) (.int i) := we_c pe_int (fun _ => .int i) ⟨rfl, rfl⟩
theorem pv_bl {b : Bool} {j pos} : PEv X B G O (.Constant (.bool b) j pos) (.bl b) := we_c pe_bl (fun _ => .bl b) ⟨rfl, rfl⟩
theorem pv_non {j pos} : PEv X B G O (.Constant .none j pos) .non := we_c pe_non (fun _ => .non) ⟨rfl, rfl⟩
theorem pv_str {x : Str} {j pos} : PEv X B G O (.Constant (.str x) j pos) (.str x) := we_c pe_str (fun _ => .str x) ⟨rfl, rfl⟩
end
section
variable {M : Mach} {X : Cx} {N : List Str} {sc : Scope} {vb lb gb : Str → Bool} {B : Bs} {G : Sl} {O : Own} {e a b : Expr} {es : List Expr}
theorem pv_var {x : Str} {d : D} {pos : Pos} (C : Cxt M X N sc vb lb gb) (h : VarAt N G x d) (hv : vb x = true) : PEv X B G O (.Name x pos) d := fun F σ H S Q k => by
  obtain ⟨i, h1, h2⟩ := h.ix
  obtain ⟨w1, w2, w3⟩ := C.vis x hv
  obtain ⟨v, e, r⟩ := S.slot i d h2
  exact sem (pe_var (i := i) (by rw [C.hN]; exact h1) w1 w2 w3) ⟨v, e, k v F H d O S (Same.refl _) r ⟨rfl, rfl⟩⟩
/-- a module's constant, a def, a class -/
theorem pv_glob {x : Str} {v : V} {u : Value} {d : D} {pos : Pos} (C : Cxt M X N sc vb lb gb) (hm : M.mg x = some u) (r : RelV v u) (hr : ∀ F, Rep X.K F v d) (hg : gb x = true) : PEv X B G O (.Name x pos) d :=
  we_c (pe_glob (C.gl x hg).1 (by rw [C.mg]; exact hm) r (C.gl x hg).2) hr ⟨rfl, rfl⟩
theorem pv_globI {x : Str} {i : Int} {pos : Pos} (C : Cxt M X N sc vb lb gb) (hm : ∃ t, M.mg x = some (.int i t)) (hg : gb x = true) : PEv X B G O (.Name x pos) (.int i) := by
  obtain ⟨t, hm⟩ := hm
  exact pv_glob C hm (v := .int i) ⟨_, rfl⟩ (fun _ => .int i) hg
theorem pv_bltnTy {x : Str} {n : String} {pos : Pos} (C : Cxt M X N sc vb lb gb) (hm : M.mg x = none) (hv : bootBuiltins x = some (.type n)) (hg : gb x = true) (hn : x ≠ "__name__" := by decide) : PEv X B G O (.Name x pos) (.ty n) :=
  we_c (pe_bltn (v := .ty n) (C.gl x hg).1 (by rw [C.mg]; exact hm) hv rfl hn (C.gl x hg).2) (fun _ => .ty n) ⟨rfl, rfl⟩
end

/-! ### operators -/
abbrev DR2 := D → D → Own → (D → Own → Prop) → Prop
section
variable {X : Cx} {B : Bs} {G : Sl} {O : Own} {e a b : Expr} {es : List Expr} {pos : Pos} {R : DR2} {r : R2} {Φ : D → Own → Prop} {d1 d2 d : D}
def DOp (X : Cx) (r : R2) (R : DR2) : Prop := ∀ (B : Bs) (G : Sl) (O : Own) (F : Hp) (σ : L2.St) (H : Hp) (x y : V) (dx dy : D) (Φ : D → Own → Prop), Sat X.K B G O F σ H → Rep X.K F x dx → Rep X.K F y dy → R dx dy O Φ →
  ∀ Q : VK, (∀ v F' H' d O', Sat X.K B G O' F' σ H' → Same F F' → Rep X.K F' v d → Φ d O' → Q v H') → r x y H Q
theorem run2 {Q : VK} {σ : L2.St} {F H : Hp} (hd : DOp X r R) (h : WE X B G O a fun d1 O1 => WE X B G O1 b fun d2 O2 => R d1 d2 O2 Φ) (S : Sat X.K B G O F σ H)
    (k : ∀ v F' H' d O', Sat X.K B G O' F' σ H' → Same F F' → Rep X.K F' v d → Φ d O' → Q v H') : tOp r (tSem X a) (tSem X b) σ H Q := by
  refine h F σ H S _ fun v F1 H1 d O1 S1 e1 r1 p1 => ?_
  refine p1 F1 σ H1 S1 _ fun u F2 H2 d2 O2 S2 e2 r2 p2 => ?_
  exact hd B G O2 F2 σ H2 v u d d2 Φ S2 (r1.mono e2) r2 p2 Q fun v3 F3 H3 d3 O3 S3 e3 r3 p3 => k v3 F3 H3 d3 O3 S3 ((e1.trans e2).trans e3) r3 p3
theorem we_op {op : Operator} (ho : OpR X (binaryOp op) r) (hd : DOp X r R) (h : WE X B G O a fun d1 O1 => WE X B G O1 b fun d2 O2 => R d1 d2 O2 Φ) : WE X B G O (.BinOp a op b pos) Φ :=
  fun F σ H S Q k => sem (pe_op ho pe_sem pe_sem) (run2 hd h S k)
theorem pv_op {op : Operator} (ho : OpR X (binaryOp op) r) (hd : DOp X r R) (ha : PEv X B G O a d1) (hb : PEv X B G O b d2) (q : R d1 d2 O fun d' O' => d' = d ∧ O' = O) : PEv X B G O (.BinOp a op b pos) d :=
  we_op ho hd (we_pv ha (we_pv hb q))
theorem we_cmp {op : CmpOp} (ho : OpR X (compareOp op) r) (hd : DOp X r R) (hm : behindInMarks op b = false) (h : WE X B G O a fun d1 O1 => WE X B G O1 b fun d2 O2 => R d1 d2 O2 Φ) : WE X B G O (.Compare a [op] [b] pos) Φ :=
  fun F σ H S Q k => sem (pe_cmpR ho pe_sem pe_sem hm) (run2 hd h S k)
theorem wt_cmp {op : CmpOp} {Φ : Bool → Own → Prop} (ho : OpR X (compareOp op) r) (hd : DOp X r R) (hm : behindInMarks op b = false) (h : WE X B G O a fun d1 O1 => WE X B G O1 b fun d2 O2 => R d1 d2 O2 fun d O' => ∃ c, d = .bl c ∧ Φ c O') : WT X B G O (.Compare a [op] [b] pos) Φ :=
  fun F σ H S Q k => semT (pt_cmpR ho pe_sem pe_sem hm) (by
    show tOp r (tSem X a) (tSem X b) σ H fun x H' => ∃ k, x = .bl k ∧ Q k H'
    refine run2 hd h S fun v F' H' d O' S' e' r' p => ?_
    obtain ⟨c, rfl, p⟩ := p
    cases r'
    exact ⟨c, rfl, k c F' H' O' S' e' p⟩)
theorem pv_cmp {op : CmpOp} (ho : OpR X (compareOp op) r) (hd : DOp X r R) (hm : behindInMarks op b = false) (ha : PEv X B G O a d1) (hb : PEv X B G O b d2) (q : R d1 d2 O fun d' O' => d' = d ∧ O' = O) : PEv X B G O (.Compare a [op] [b] pos) d :=
  we_cmp ho hd hm (we_pv ha (we_pv hb q))
theorem ptv_cmp {op : CmpOp} {c : Bool} (ho : OpR X (compareOp op) r) (hd : DOp X r R) (hm : behindInMarks op b = false) (ha : PEv X B G O a d1) (hb : PEv X B G O b d2) (q : R d1 d2 O fun d' O' => d' = .bl c ∧ O' = O) (hR : ∀ O Φ Ψ, (∀ d O, Φ d O → Ψ d O) → R d1 d2 O Φ → R d1 d2 O Ψ) : PTv X B G O (.Compare a [op] [b] pos) c :=
  wt_cmp ho hd hm (we_pv ha (we_pv hb (hR _ _ _ (fun d O' z => ⟨c, z.1, rfl, z.2⟩) q)))
/-- two ints -/
def dI (C : Int → Int → Prop) (g : Int → Int → D) : DR2 := fun x y O Φ => ∃ i j, x = .int i ∧ y = .int j ∧ C i j ∧ Φ (g i j) O
theorem dop_I {C : Int → Int → Prop} {g : Int → Int → Int} : DOp X (rI C fun i j => .int (g i j)) (dI C fun i j => .int (g i j)) := fun B G O F σ H x y dx dy Φ S rx ry h Q k => by
  obtain ⟨i, j, rfl, rfl, hc, q⟩ := h
  cases rx
  cases ry
  exact ⟨i, j, rfl, rfl, hc, k _ F H _ O S (Same.refl _) (.int _) q⟩
theorem dop_I0 {g : Int → Int → Int} : DOp X (rI0 fun i j => .int (g i j)) (dI (fun _ _ => True) fun i j => .int (g i j)) := fun B G O F σ H x y dx dy Φ S rx ry h Q k => by
  obtain ⟨i, j, rfl, rfl, _, q⟩ := h
  cases rx
  cases ry
  exact ⟨i, j, rfl, rfl, k _ F H _ O S (Same.refl _) (.int _) q⟩
theorem dop_B0 {g : Int → Int → Bool} : DOp X (rI0 fun i j => .bl (g i j)) (dI (fun _ _ => True) fun i j => .bl (g i j)) := fun B G O F σ H x y dx dy Φ S rx ry h Q k => by
  obtain ⟨i, j, rfl, rfl, _, q⟩ := h
  cases rx
  cases ry
  exact ⟨i, j, rfl, rfl, k _ F H _ O S (Same.refl _) (.bl _) q⟩
theorem dI_mono {C : Int → Int → Prop} {g : Int → Int → D} {x y : D} (O : Own) (Φ Ψ : D → Own → Prop) (k : ∀ d O, Φ d O → Ψ d O) : dI C g x y O Φ → dI C g x y O Ψ := fun ⟨i, j, a, b, c, q⟩ => ⟨i, j, a, b, c, k _ _ q⟩
variable {i j : Int}
theorem pv_add (ha : PEv X B G O a (.int i)) (hb : PEv X B G O b (.int j)) : PEv X B G O (.BinOp a .Add b pos) (.int (i + j)) := pv_op op_add dop_I0 ha hb ⟨i, j, rfl, rfl, trivial, rfl, rfl⟩
theorem pv_sub (ha : PEv X B G O a (.int i)) (hb : PEv X B G O b (.int j)) : PEv X B G O (.BinOp a .Sub b pos) (.int (i - j)) := pv_op op_sub dop_I0 ha hb ⟨i, j, rfl, rfl, trivial, rfl, rfl⟩
theorem pv_mul (ha : PEv X B G O a (.int i)) (hb : PEv X B G O b (.int j)) (h : CMul i j) : PEv X B G O (.BinOp a .Mult b pos) (.int (i * j)) := pv_op op_mul dop_I ha hb ⟨i, j, rfl, rfl, h, rfl, rfl⟩
theorem pv_fdiv (ha : PEv X B G O a (.int i)) (hb : PEv X B G O b (.int j)) (h : CDiv i j) : PEv X B G O (.BinOp a .FloorDiv b pos) (.int (i / j)) := pv_op op_fdiv dop_I ha hb ⟨i, j, rfl, rfl, h, rfl, rfl⟩
theorem pv_mod (ha : PEv X B G O a (.int i)) (hb : PEv X B G O b (.int j)) (h : 0 < j) : PEv X B G O (.BinOp a .Mod b pos) (.int (i % j)) := pv_op op_mod dop_I ha hb ⟨i, j, rfl, rfl, h, rfl, rfl⟩
theorem pv_pow (ha : PEv X B G O a (.int i)) (hb : PEv X B G O b (.int j)) (h : CPow i j) : PEv X B G O (.BinOp a .Pow b pos) (.int (i ^ j.toNat)) := pv_op op_pow dop_I ha hb ⟨i, j, rfl, rfl, h, rfl, rfl⟩
theorem pt_lt (ha : PEv X B G O a (.int i)) (hb : PEv X B G O b (.int j)) : PTv X B G O (.Compare a [.Lt] [b] pos) (decide (i < j)) := ptv_cmp op_lt dop_B0 (nomark _) ha hb ⟨i, j, rfl, rfl, trivial, rfl, rfl⟩ dI_mono
theorem pt_le (ha : PEv X B G O a (.int i)) (hb : PEv X B G O b (.int j)) : PTv X B G O (.Compare a [.LtE] [b] pos) (decide (i ≤ j)) := ptv_cmp op_le dop_B0 (nomark _) ha hb ⟨i, j, rfl, rfl, trivial, rfl, rfl⟩ dI_mono
theorem pt_gt (ha : PEv X B G O a (.int i)) (hb : PEv X B G O b (.int j)) : PTv X B G O (.Compare a [.Gt] [b] pos) (decide (j < i)) := ptv_cmp op_gt dop_B0 (nomark _) ha hb ⟨i, j, rfl, rfl, trivial, rfl, rfl⟩ dI_mono
theorem pt_ge (ha : PEv X B G O a (.int i)) (hb : PEv X B G O b (.int j)) : PTv X B G O (.Compare a [.GtE] [b] pos) (decide (j ≤ i)) := ptv_cmp op_ge dop_B0 (nomark _) ha hb ⟨i, j, rfl, rfl, trivial, rfl, rfl⟩ dI_mono
theorem pv_lt (ha : PEv X B G O a (.int i)) (hb : PEv X B G O b (.int j)) : PEv X B G O (.Compare a [.Lt] [b] pos) (.bl (decide (i < j))) := pv_cmp op_lt dop_B0 (nomark _) ha hb ⟨i, j, rfl, rfl, trivial, rfl, rfl⟩
theorem pv_le (ha : PEv X B G O a (.int i)) (hb : PEv X B G O b (.int j)) : PEv X B G O (.Compare a [.LtE] [b] pos) (.bl (decide (i ≤ j))) := pv_cmp op_le dop_B0 (nomark _) ha hb ⟨i, j, rfl, rfl, trivial, rfl, rfl⟩
theorem pv_gt (ha : PEv X B G O a (.int i)) (hb : PEv X B G O b (.int j)) : PEv X B G O (.Compare a [.Gt] [b] pos) (.bl (decide (j < i))) := pv_cmp op_gt dop_B0 (nomark _) ha hb ⟨i, j, rfl, rfl, trivial, rfl, rfl⟩
theorem pv_ge (ha : PEv X B G O a (.int i)) (hb : PEv X B G O b (.int j)) : PEv X B G O (.Compare a [.GtE] [b] pos) (.bl (decide (j ≤ i))) := pv_cmp op_ge dop_B0 (nomark _) ha hb ⟨i, j, rfl, rfl, trivial, rfl, rfl⟩
/-- scalars: == is = -/
def dS (c : D → D → Option Bool) (f : Bool → Bool) : DR2 := fun x y O Φ => ∃ q, c x y = some q ∧ Φ (.bl (f q)) O
/-- == of two scalars -/
def eqS : D → D → Option Bool
  | .int i, .int j => some (decide (i = j))
  | .str i, .str j => some (decide (i = j))
  | .bl i, .bl j => some (decide (i = j))
  | .non, .non => some true
  | .non, .int _ => some false
  | .int _, .non => some false
  | .non, .str _ => some false
  | .str _, .non => some false
  | .non, .bl _ => some false
  | .bl _, .non => some false
  | .int _, .str _ => some false
  | .str _, .int _ => some false
  | .bl _, .str _ => some false
  | .str _, .bl _ => some false
  | _, _ => none
theorem eqS_ok {K : PySem.W.Frag} {F : Hp} {x y : V} {dx dy : D} {q : Bool} (rx : Rep K F x dx) (ry : Rep K F y dy) (h : eqS dx dy = some q) : scal x y = true ∧ decide (x = y) = q := by
  have inj : ∀ {α : Type} {f : α → V} (hf : ∀ a b, f a = f b → a = b) [DecidableEq α] (a b : α), decide (f a = f b) = decide (a = b) := fun {α f} hf _ a b => by
    by_cases e : a = b
    · subst e; simp
    · rw [decide_eq_false e, decide_eq_false (fun z => e (hf a b z))]
  cases rx <;> cases ry <;> simp only [eqS, Option.some.injEq, reduceCtorEq] at h <;> subst h <;> refine ⟨rfl, ?_⟩
  all_goals first
    | rfl
    | exact inj (fun a b z => by injection z) _ _
    | exact decide_eq_false (fun z => by cases z)
theorem dop_eq : DOp X rEq (dS eqS id) := fun B G O F σ H x y dx dy Φ S rx ry h Q k => by
  obtain ⟨q, hq, p⟩ := h
  obtain ⟨h1, h2⟩ := eqS_ok rx ry hq
  exact ⟨h1, k _ F H (.bl q) O S (Same.refl _) (by rw [h2]; exact .bl q) p⟩
theorem dop_ne : DOp X rNe (dS eqS not) := fun B G O F σ H x y dx dy Φ S rx ry h Q k => by
  obtain ⟨q, hq, p⟩ := h
  obtain ⟨h1, h2⟩ := eqS_ok rx ry hq
  exact ⟨h1, k _ F H (.bl (!q)) O S (Same.refl _) (by rw [h2]; exact .bl (!q)) p⟩
theorem dS_mono {c : D → D → Option Bool} {f : Bool → Bool} {x y : D} (O : Own) (Φ Ψ : D → Own → Prop) (k : ∀ d O, Φ d O → Ψ d O) : dS c f x y O Φ → dS c f x y O Ψ := fun ⟨i, a, q⟩ => ⟨i, a, k _ _ q⟩
theorem pt_eq {c : Bool} (ha : PEv X B G O a d1) (hb : PEv X B G O b d2) (h : eqS d1 d2 = some c) : PTv X B G O (.Compare a [.Eq] [b] pos) c := ptv_cmp op_eq dop_eq (nomark _) ha hb ⟨c, h, rfl, rfl⟩ dS_mono
theorem pt_ne {c : Bool} (ha : PEv X B G O a d1) (hb : PEv X B G O b d2) (h : eqS d1 d2 = some c) : PTv X B G O (.Compare a [.NotEq] [b] pos) (!c) := ptv_cmp op_ne dop_ne (nomark _) ha hb ⟨c, h, rfl, rfl⟩ dS_mono
theorem pv_eq {c : Bool} (ha : PEv X B G O a d1) (hb : PEv X B G O b d2) (h : eqS d1 d2 = some c) : PEv X B G O (.Compare a [.Eq] [b] pos) (.bl c) := pv_cmp op_eq dop_eq (nomark _) ha hb ⟨c, h, rfl, rfl⟩
theorem pv_ne {c : Bool} (ha : PEv X B G O a d1) (hb : PEv X B G O b d2) (h : eqS d1 d2 = some c) : PEv X B G O (.Compare a [.NotEq] [b] pos) (.bl (!c)) := pv_cmp op_ne dop_ne (nomark _) ha hb ⟨c, h, rfl, rfl⟩
/-- is None -/
def isNon : D → Bool
  | .non => true
  | _ => false
def dIs (f : Bool → Bool) : DR2 := fun x y O Φ => y = .non ∧ Φ (.bl (f (isNon x))) O
theorem isNon_ok {K : PySem.W.Frag} {F : Hp} {x : V} {dx : D} (rx : Rep K F x dx) : decide (x = V.non) = isNon dx := by
  cases rx <;> first | rfl | exact decide_eq_false (fun z => by cases z)
theorem dop_is : DOp X (fun x y H Q => y = .non ∧ Q (.bl (decide (x = .non))) H) (dIs id) := fun B G O F σ H x y dx dy Φ S rx ry h Q k => by
  obtain ⟨rfl, p⟩ := h
  cases ry
  exact ⟨rfl, k _ F H (.bl (isNon dx)) O S (Same.refl _) (by rw [isNon_ok rx]; exact .bl _) p⟩
theorem dop_isnot : DOp X (fun x y H Q => y = .non ∧ Q (.bl (!decide (x = .non))) H) (dIs not) := fun B G O F σ H x y dx dy Φ S rx ry h Q k => by
  obtain ⟨rfl, p⟩ := h
  cases ry
  exact ⟨rfl, k _ F H (.bl (!isNon dx)) O S (Same.refl _) (by rw [isNon_ok rx]; exact .bl _) p⟩
theorem dIs_mono {f : Bool → Bool} {x y : D} (O : Own) (Φ Ψ : D → Own → Prop) (k : ∀ d O, Φ d O → Ψ d O) : dIs f x y O Φ → dIs f x y O Ψ := fun ⟨a, q⟩ => ⟨a, k _ _ q⟩
theorem pt_is (ha : PEv X B G O a d1) (hb : PEv X B G O b .non) : PTv X B G O (.Compare a [.Is] [b] pos) (isNon d1) := ptv_cmp op_isN dop_is (nomark _) ha hb ⟨rfl, rfl, rfl⟩ dIs_mono
theorem pt_isnot (ha : PEv X B G O a d1) (hb : PEv X B G O b .non) : PTv X B G O (.Compare a [.IsNot] [b] pos) (!isNon d1) := ptv_cmp op_notN dop_isnot (nomark _) ha hb ⟨rfl, rfl, rfl⟩ dIs_mono
theorem pv_is (ha : PEv X B G O a d1) (hb : PEv X B G O b .non) : PEv X B G O (.Compare a [.Is] [b] pos) (.bl (isNon d1)) := pv_cmp op_isN dop_is (nomark _) ha hb ⟨rfl, rfl, rfl⟩
theorem pv_isnot (ha : PEv X B G O a d1) (hb : PEv X B G O b .non) : PEv X B G O (.Compare a [.IsNot] [b] pos) (.bl (!isNon d1)) := pv_cmp op_notN dop_isnot (nomark _) ha hb ⟨rfl, rfl, rfl⟩

/-! ### tests -/
theorem wt_val {Φ : Bool → Own → Prop} (h : WE X B G O e fun d O' => ∃ c, d = .bl c ∧ Φ c O') (he : ∀ whole, isTrue e X.env whole = (do let v ← whole; standAt e.pos; holding [v] (truthy v)) := by intro _; rfl) : WT X B G O e Φ := fun F σ H S Q k =>
  semT (pt_val pe_sem he) (h F σ H S _ fun v F' H' d O' S' e' r' p => by
    obtain ⟨c, rfl, p⟩ := p
    cases r'
    exact ⟨c, rfl, k c F' H' O' S' e' p⟩)
theorem pt_v {c : Bool} (h : PEv X B G O e (.bl c)) (he : ∀ whole, isTrue e X.env whole = (do let v ← whole; standAt e.pos; holding [v] (truthy v)) := by intro _; rfl) : PTv X B G O e c :=
  wt_val (we_pv h ⟨c, rfl, rfl, rfl⟩) he
variable {ca cb : Bool} {rest : List Expr}
theorem wt_not {Φ : Bool → Own → Prop} (h : WT X B G O a fun c O' => Φ (!c) O') : WT X B G O (.UnaryOp .Not a pos) Φ := fun F σ H S Q k => semT (pt_not pt_sem) (h F σ H S _ fun b F' H' O' S' e' p => k (!b) F' H' O' S' e' p)
theorem pt_notv (h : PTv X B G O a ca) : PTv X B G O (.UnaryOp .Not a pos) (!ca) := wt_not (wt_pv h ⟨rfl, rfl⟩)
theorem ww_and1 {Φ : Bool → Own → Prop} (h : WT X B G O a Φ) : WW X B G O (.BoolOp .And [a] pos) Φ := fun F σ H S Q k => semW (pw_and1 pt_sem) (h F σ H S Q k)
theorem ww_or1 {Φ : Bool → Own → Prop} (h : WT X B G O a Φ) : WW X B G O (.BoolOp .Or [a] pos) Φ := fun F σ H S Q k => semW (pw_or1 pt_sem) (h F σ H S Q k)
theorem ww_and {Φ : Bool → Own → Prop} (h : WT X B G O a fun c O' => if c = true then WW X B G O' (.BoolOp .And (b :: rest) pos) Φ else Φ false O') : WW X B G O (.BoolOp .And (a :: b :: rest) pos) Φ := fun F σ H S Q k =>
  semW (pw_and pt_sem pw_sem) (h F σ H S _ fun c F' H' O' S' e' p => by
    cases c with
    | true => exact p F' σ H' S' Q fun c2 F2 H2 O2 S2 e2 p2 => k c2 F2 H2 O2 S2 (e'.trans e2) p2
    | false => exact k false F' H' O' S' e' p)
theorem ww_or {Φ : Bool → Own → Prop} (h : WT X B G O a fun c O' => if c = true then Φ true O' else WW X B G O' (.BoolOp .Or (b :: rest) pos) Φ) : WW X B G O (.BoolOp .Or (a :: b :: rest) pos) Φ := fun F σ H S Q k =>
  semW (pw_or pt_sem pw_sem) (h F σ H S _ fun c F' H' O' S' e' p => by
    cases c with
    | false => exact p F' σ H' S' Q fun c2 F2 H2 O2 S2 e2 p2 => k c2 F2 H2 O2 S2 (e'.trans e2) p2
    | true => exact k true F' H' O' S' e' p)
theorem WW.t {Φ : Bool → Own → Prop} (h : WW X B G O e Φ) : WT X B G O e Φ := fun F σ H S Q k => ⟨fun pins s I => (h F σ H S Q k).run _ pins s I⟩
def PWv (X : Cx) (B : Bs) (G : Sl) (O : Own) (e : Expr) (b : Bool) : Prop := WW X B G O e fun b' O' => b' = b ∧ O' = O
theorem WW.mono {Φ Ψ : Bool → Own → Prop} (h : WW X B G O e Φ) (k : ∀ d O', Φ d O' → Ψ d O') : WW X B G O e Ψ := fun F σ H S Q q => h F σ H S Q fun v F' H' O' S' e' p => q v F' H' O' S' e' (k v O' p)
theorem pwv_and1 (h : PTv X B G O a ca) : PWv X B G O (.BoolOp .And [a] pos) ca := ww_and1 h
theorem pwv_or1 (h : PTv X B G O a ca) : PWv X B G O (.BoolOp .Or [a] pos) ca := ww_or1 h
theorem pwv_and (ha : PTv X B G O a ca) (hb : ca = true → PWv X B G O (.BoolOp .And (b :: rest) pos) cb) : PWv X B G O (.BoolOp .And (a :: b :: rest) pos) (ca && cb) := ww_and (wt_pv ha (by
  cases ca with
  | true => exact WW.mono (hb rfl) fun _ _ z => ⟨z.1, z.2⟩
  | false => exact ⟨rfl, rfl⟩))
theorem pwv_or (ha : PTv X B G O a ca) (hb : ca = false → PWv X B G O (.BoolOp .Or (b :: rest) pos) cb) : PWv X B G O (.BoolOp .Or (a :: b :: rest) pos) (ca || cb) := ww_or (wt_pv ha (by
  cases ca with
  | false => exact WW.mono (hb rfl) fun _ _ z => ⟨z.1, z.2⟩
  | true => exact ⟨rfl, rfl⟩))
theorem PWv.t (h : PWv X B G O e ca) : PTv X B G O e ca := WW.t h
/-- .. as values -/
theorem we_and1 {Φ : D → Own → Prop} {op : BoolOp} (h : WE X B G O a Φ) : WE X B G O (.BoolOp op [a] pos) Φ := fun F σ H S Q k => sem (pe_one pe_sem) (h F σ H S Q k)
theorem we_and {Φ : D → Own → Prop} (h : WE X B G O a fun d O' => ∃ c, d = .bl c ∧ if c = true then WE X B G O' (.BoolOp .And (b :: rest) pos) Φ else Φ (.bl false) O') : WE X B G O (.BoolOp .And (a :: b :: rest) pos) Φ := fun F σ H S Q k =>
  sem (pe_and pe_sem pe_sem) (h F σ H S _ fun v F' H' d O' S' e' r p => by
    obtain ⟨c, rfl, p⟩ := p
    cases r
    refine ⟨c, rfl, ?_⟩
    cases c with
    | true => exact p F' σ H' S' Q fun v2 F2 H2 d2 O2 S2 e2 r2 p2 => k v2 F2 H2 d2 O2 S2 (e'.trans e2) r2 p2
    | false => exact k _ F' H' _ O' S' e' (.bl false) p)
theorem we_or {Φ : D → Own → Prop} (h : WE X B G O a fun d O' => ∃ c, d = .bl c ∧ if c = true then Φ (.bl true) O' else WE X B G O' (.BoolOp .Or (b :: rest) pos) Φ) : WE X B G O (.BoolOp .Or (a :: b :: rest) pos) Φ := fun F σ H S Q k =>
  sem (pe_or pe_sem pe_sem) (h F σ H S _ fun v F' H' d O' S' e' r p => by
    obtain ⟨c, rfl, p⟩ := p
    cases r
    refine ⟨c, rfl, ?_⟩
    cases c with
    | false => exact p F' σ H' S' Q fun v2 F2 H2 d2 O2 S2 e2 r2 p2 => k v2 F2 H2 d2 O2 S2 (e'.trans e2) r2 p2
    | true => exact k _ F' H' _ O' S' e' (.bl true) p)
theorem we_not {Φ : D → Own → Prop} (h : WE X B G O a fun d O' => ∃ c, d = .bl c ∧ Φ (.bl (!c)) O') : WE X B G O (.UnaryOp .Not a pos) Φ := fun F σ H S Q k =>
  sem (pe_not pe_sem) (h F σ H S _ fun v F' H' d O' S' e' r p => by
    obtain ⟨c, rfl, p⟩ := p
    cases r
    exact ⟨c, rfl, k _ F' H' _ O' S' e' (.bl _) p⟩)
theorem pv_one {op : BoolOp} (h : PEv X B G O a d) : PEv X B G O (.BoolOp op [a] pos) d := we_and1 h
theorem pv_and (ha : PEv X B G O a (.bl ca)) (hb : ca = true → PEv X B G O (.BoolOp .And (b :: rest) pos) (.bl cb)) : PEv X B G O (.BoolOp .And (a :: b :: rest) pos) (.bl (ca && cb)) := we_and (we_pv ha ⟨ca, rfl, by
  cases ca with
  | true => exact WE.mono (hb rfl) fun _ _ z => ⟨z.1, z.2⟩
  | false => exact ⟨rfl, rfl⟩⟩)
theorem pv_or (ha : PEv X B G O a (.bl ca)) (hb : ca = false → PEv X B G O (.BoolOp .Or (b :: rest) pos) (.bl cb)) : PEv X B G O (.BoolOp .Or (a :: b :: rest) pos) (.bl (ca || cb)) := we_or (we_pv ha ⟨ca, rfl, by
  cases ca with
  | false => exact WE.mono (hb rfl) fun _ _ z => ⟨z.1, z.2⟩
  | true => exact ⟨rfl, rfl⟩⟩)
theorem pv_not (ha : PEv X B G O a (.bl ca)) : PEv X B G O (.UnaryOp .Not a pos) (.bl (!ca)) := we_not (we_pv ha ⟨ca, rfl, rfl, rfl⟩)
/-- a if t else b -/
theorem we_if {t : Expr} {Φ : D → Own → Prop} (h : WT X B G O t fun c O' => if c = true then WE X B G O' a Φ else WE X B G O' b Φ) : WE X B G O (.IfExp t a b pos) Φ := fun F σ H S Q k =>
  sem (pe_ifExp pt_sem pe_sem pe_sem) (h F σ H S _ fun c F' H' O' S' e' p => by
    cases c with
    | true => exact p F' σ H' S' Q fun v2 F2 H2 d2 O2 S2 e2 r2 p2 => k v2 F2 H2 d2 O2 S2 (e'.trans e2) r2 p2
    | false => exact p F' σ H' S' Q fun v2 F2 H2 d2 O2 S2 e2 r2 p2 => k v2 F2 H2 d2 O2 S2 (e'.trans e2) r2 p2)
theorem pv_if {t : Expr} (ht : PTv X B G O t ca) (h1 : ca = true → PEv X B G O a d1) (h2 : ca = false → PEv X B G O b d2) : PEv X B G O (.IfExp t a b pos) (if ca = true then d1 else d2) := we_if (wt_pv ht (by
  cases ca with
  | true => exact h1 rfl
  | false => exact h2 rfl))
end
end Dl

set_option Elab.async false
set_option linter.all false
set_option maxRecDepth 100000
set_option maxHeartbeats 2000000
/-! D2: subscripts, displays, new lists, slices, joining, built-in calls. -/
namespace Dl
open PySem PySem.Spec PyProof.Rows L2

/-- the items of a tuple or list, frozen or owned -/
inductive ItemsL (O : Own) : D → List D → Prop
  | lst {ds : List D} : ItemsL O (.lst ds) ds
  | own {a : Addr} {ds : List D} : (a, OV.lst ds) ∈ O → ItemsL O (.obj a) ds
inductive Items (O : Own) : D → List D → Prop
  | tup {ds : List D} : Items O (.tup ds) ds
  | lst {ds : List D} : Items O (.lst ds) ds
  | own {a : Addr} {ds : List D} : (a, OV.lst ds) ∈ O → Items O (.obj a) ds
section
variable {K : PySem.W.Frag} {B : Bs} {G : Sl} {O : Own} {F H : Hp} {σ : L2.St}
theorem itemsL_ok (S : Sat K B G O F σ H) {v : V} {d : D} {ds : List D} (r : Rep K F v d) (it : ItemsL O d ds) : ∃ a vs, v = .ref a ∧ Reps K F vs ds ∧ SqL K H a vs := by
  cases it with
  | lst =>
    cases r with
    | lst h rs => exact ⟨_, _, rfl, rs, S.ex.seq h⟩
  | own hm =>
    cases r with
    | obj a =>
      obtain ⟨_, vs, h1, h2⟩ := S.own _ hm
      exact ⟨_, vs, rfl, h2, SqL.of h1⟩
theorem items_ok (S : Sat K B G O F σ H) {v : V} {d : D} {ds : List D} (r : Rep K F v d) (it : Items O d ds) : ∃ a vs, v = .ref a ∧ Reps K F vs ds ∧ (SqL K H a vs ∨ SqT K H a vs) := by
  cases it with
  | tup =>
    cases r with
    | tup h rs => exact ⟨_, _, rfl, rs, .inr (sqT_mono S.ex h)⟩
  | lst =>
    obtain ⟨a, vs, h1, h2, h3⟩ := itemsL_ok S r .lst
    exact ⟨a, vs, h1, h2, .inl h3⟩
  | own hm =>
    obtain ⟨a, vs, h1, h2, h3⟩ := itemsL_ok S r (.own hm)
    exact ⟨a, vs, h1, h2, .inl h3⟩
theorem atI_rep {vs : List V} {ds : List D} {i : Int} {d : D} (rs : Reps K F vs ds) (h : atI ds i = some d) : ∃ v, atI vs i = some v ∧ Rep K F v d := by
  unfold atI at h ⊢
  rw [rs.length]
  cases e : ixN ds.length i with
  | none => rw [e] at h; cases h
  | some j =>
    rw [e] at h
    exact rs.get h
end
section
variable {M : Mach} {X : Cx} {N : List Str} {sc : Scope} {vb lb gb : Str → Bool} {B : Bs} {G : Sl} {O : Own} {e a b : Expr} {es : List Expr} {pos : Pos} {d d1 d2 : D} {ds : List D} {i : Int}
/-! ### subscripts -/
def dIx : DR2 := fun x y O Φ => ∃ ds i d, Items O x ds ∧ y = .int i ∧ atI ds i = some d ∧ Φ d O
theorem dop_ix : DOp X (rIx X.K) dIx := fun B G O F σ H x y dx dy Φ S rx ry h Q k => by
  obtain ⟨ds, i, d, it, rfl, ha, p⟩ := h
  cases ry
  obtain ⟨a, vs, rfl, rs, hq⟩ := items_ok S rx it
  obtain ⟨v, hv, rv⟩ := atI_rep rs ha
  rcases hq with hq | hq
  · exact .inl ⟨a, vs, i, v, rfl, rfl, hq, hv, k v F H d O S (Same.refl _) rv p⟩
  · exact .inr (.inl ⟨a, vs, i, v, rfl, rfl, hq, hv, k v F H d O S (Same.refl _) rv p⟩)
theorem we_ix {Φ : D → Own → Prop} (h : WE X B G O a fun d1 O1 => WE X B G O1 b fun d2 O2 => dIx d1 d2 O2 Φ) (hs : PlainIx b := by intro _ _; rfl) : WE X B G O (.Subscript a b pos) Φ :=
  fun F σ H S Q k => sem (pe_ix ix_seq pe_sem pe_sem hs) (run2 dop_ix h S k)
theorem pv_ix (ha : PEv X B G O a d1) (hb : PEv X B G O b (.int i)) (it : Items O d1 ds) (hx : atI ds i = some d) (hs : PlainIx b := by intro _ _; rfl) : PEv X B G O (.Subscript a b pos) d :=
  we_ix (we_pv ha (we_pv hb ⟨ds, i, d, it, rfl, hx, rfl, rfl⟩)) hs
/-! ### displays -/
theorem len_line {n : Nat} (h : n ≤ 1000000) : n ≤ sizeLine := Nat.le_trans h (by rw [sizeLine_eq]; decide)
theorem we_tup {j : Nat} {Φ : D → Own → Prop} (h : WA X B G O es fun ds O' => ds.length ≤ 1000000 ∧ Φ (.tup ds) O') : WE X B G O (.Tuple es j pos) Φ := fun F σ H S Q k =>
  sem (pe_tup pa_sem) (h F σ H S _ fun vs F1 H1 ds O1 S1 e1 r1 p1 => ⟨by rw [r1.length]; exact len_line p1.1, fun p hp => by
    have S2 := S1.alloc hp (.tup vs)
    have e2 : Same F1 (upd F1 p (.tup vs)) := same_upd (S1.fresh hp).1
    exact k _ _ _ _ _ S2 (e1.trans e2) (.tup (SqT.of upd_same) (r1.mono e2)) p1.2⟩)
theorem pv_tup {j : Nat} (h : PAv X B G O es ds) (hl : ds.length ≤ 1000000 := by exact Nat.le_of_ble_eq_true rfl) : PEv X B G O (.Tuple es j pos) (.tup ds) := we_tup (wa_pv h ⟨hl, rfl, rfl⟩)

/-! ### new lists -/
def WN (X : Cx) (B : Bs) (G : Sl) (O : Own) (e : Expr) (Φ : List D → Own → Prop) : Prop := ∀ F σ H, Sat X.K B G O F σ H → ∀ Q : VK,
  (∀ p ds F' H' O', Sat X.K B G ((p, OV.lst ds) :: O') F' σ H' → Same F F' → Φ ds O' → Q (.ref p) H') → tSem X e σ H Q
def PNv (X : Cx) (B : Bs) (G : Sl) (O : Own) (e : Expr) (ds : List D) : Prop := WN X B G O e fun ds' O' => ds' = ds ∧ O' = O
theorem WN.mono {Φ Ψ : List D → Own → Prop} (h : WN X B G O e Φ) (k : ∀ d O', Φ d O' → Ψ d O') : WN X B G O e Ψ := fun F σ H S Q q => h F σ H S Q fun p ds F' H' O' S' e' z => q p ds F' H' O' S' e' (k _ _ z)
theorem wn_pv {Φ : List D → Own → Prop} (h : PNv X B G O e ds) (q : Φ ds O) : WN X B G O e Φ := WN.mono h fun _ _ z => by rw [z.1, z.2]; exact q
/-- .. that will not change -/
theorem we_frz {Φ : D → Own → Prop} (h : WN X B G O e fun ds O' => Φ (.lst ds) O') : WE X B G O e Φ := fun F σ H S Q k => h F σ H S Q fun p ds F1 H1 O1 S1 e1 p1 => by
  obtain ⟨vs, hv, r, e2, S2⟩ := S1.freeze .z
  exact k _ _ _ _ _ S2 (e1.trans e2) (.lst (SqL.of upd_same) (r.mono e2)) p1
theorem pv_frz (h : PNv X B G O e ds) : PEv X B G O e (.lst ds) := we_frz (wn_pv h ⟨rfl, rfl⟩)
/-- .. that is owned -/
theorem we_own {Φ : D → Own → Prop} (h : WN X B G O e fun ds O' => ∀ p, Φ (.obj p) ((p, .lst ds) :: O')) : WE X B G O e Φ := fun F σ H S Q k => h F σ H S Q fun p ds F1 H1 O1 S1 e1 p1 => k _ _ _ _ _ S1 e1 (.obj p) (p1 p)
theorem wn_lst {Φ : List D → Own → Prop} (h : WA X B G O es fun ds O' => ds.length ≤ 1000000 ∧ Φ ds O') : WN X B G O (.List es pos) Φ := fun F σ H S Q k =>
  sem (pe_lst pa_sem) (h F σ H S _ fun vs F1 H1 ds O1 S1 e1 r1 p1 => ⟨by rw [r1.length]; exact len_line p1.1, fun p hp => k p ds F1 _ O1 (S1.allocOwn hp (ov := .lst ds) ⟨vs, upd_same, r1⟩) e1 p1.2⟩)
theorem pn_lst (h : PAv X B G O es ds) (hl : ds.length ≤ 1000000 := by exact Nat.le_of_ble_eq_true rfl) : PNv X B G O (.List es pos) ds := wn_lst (wa_pv h ⟨hl, rfl, rfl⟩)

/-! ### list + list, tuple + tuple -/
def rCatL (K : PySem.W.Frag) : R2 := fun x y H Q => ∃ l b xs zs, x = .ref l ∧ y = .ref b ∧ SqL K H l xs ∧ SqL K H b zs ∧ xs.length + zs.length ≤ sizeLine ∧ ∀ p, H p = none → Q (.ref p) (upd H p (.lst (xs ++ zs)))
theorem op_catL : OpR X (binaryOp .Add) (rCatL X.K) := by
  intro pins s σ H x y v u Q I rx ry h
  obtain ⟨l, b, xs, zs, rfl, rfl, hL, hB, hz, q⟩ := h
  cases rx
  cases ry
  obtain ⟨its, r, pl, _⟩ := I.list hL
  obtain ⟨its2, r2, pl2, _⟩ := I.list hB
  have hl := r.length
  have hl2 := r2.length
  obtain ⟨⟨cls, dd, data, sl⟩, ho, hc, n, hd⟩ := id pl.isList
  obtain ⟨⟨cls2, dd2, data2, sl2⟩, ho2, hc2, n2, hd2⟩ := id pl2.isList
  simp only at hc hd hc2 hd2
  subst hc hd hc2 hd2
  have e : its.toArray ++ its2.toArray = (its ++ its2).toArray := by simp
  refine concat_meets ⟨_, ho, rfl⟩ ⟨_, ho2, rfl⟩ noFill_list_add seq_list_add PySem.F.slot_list_add PySem.F.entry_list_add (PySem.F.args_list_add_2 _ _)
    (list_addW l b its.toArray its2.toArray n n2 dd dd2 sl sl2 (by rw [List.size_toArray, List.size_toArray]; omega)) ⟨ho, ho2, ?_⟩
  rw [e]
  exact ⟨.ref _, _, I.lnew (t' := s.toks) (r.append r2) (by rw [List.length_append]; omega), rfl, q _ I.fresh⟩
theorem wn_cat {Φ : List D → Own → Prop} (h : WE X B G O a fun d1 O1 => WE X B G O1 b fun d2 O2 => ∃ xs ys, ItemsL O2 d1 xs ∧ ItemsL O2 d2 ys ∧ xs.length + ys.length ≤ 1000000 ∧ Φ (xs ++ ys) O2) : WN X B G O (.BinOp a .Add b pos) Φ := fun F σ H S Q k =>
  sem (pe_op op_catL pe_sem pe_sem) (h F σ H S _ fun v F1 H1 d1 O1 S1 e1 r1 p1 => p1 F1 σ H1 S1 _ fun u F2 H2 d2 O2 S2 e2 r2 p2 => by
    obtain ⟨xs, ys, i1, i2, hl, p2⟩ := p2
    obtain ⟨l, vs, rfl, rs1, q1⟩ := itemsL_ok S2 (r1.mono e2) i1
    obtain ⟨m, ws, rfl, rs2, q2⟩ := itemsL_ok S2 r2 i2
    exact ⟨l, m, vs, ws, rfl, rfl, q1, q2, by rw [rs1.length, rs2.length]; exact len_line hl, fun p hp => k p _ F2 _ O2 (S2.allocOwn hp (ov := .lst (xs ++ ys)) ⟨_, upd_same, rs1.append rs2⟩) (e1.trans e2) p2⟩)
theorem pn_cat {xs ys : List D} (ha : PEv X B G O a d1) (hb : PEv X B G O b d2) (i1 : ItemsL O d1 xs) (i2 : ItemsL O d2 ys) (hl : xs.length + ys.length ≤ 1000000) : PNv X B G O (.BinOp a .Add b pos) (xs ++ ys) :=
  wn_cat (we_pv ha (we_pv hb ⟨xs, ys, i1, i2, hl, rfl, rfl⟩))
def dCatT : DR2 := fun x y O Φ => ∃ xs ys, x = .tup xs ∧ y = .tup ys ∧ xs.length + ys.length ≤ 1000000 ∧ Φ (.tup (xs ++ ys)) O
theorem Reps.nil_iff {K : PySem.W.Frag} {F : Hp} {vs : List V} (r : Reps K F vs ds) : vs = [] ↔ ds = [] := by
  cases r with
  | nil => simp
  | cons _ _ => simp
theorem dop_catT : DOp X (rCatA X.K) dCatT := fun B G O F σ H x y dx dy Φ S rx ry h Q k => by
  obtain ⟨xs, ys, rfl, rfl, hl, p⟩ := h
  cases rx with
  | tup q1 r1 =>
    cases ry with
    | tup q2 r2 =>
      rename_i a vs b ws
      refine ⟨a, b, vs, ws, rfl, rfl, sqT_mono S.ex q1, sqT_mono S.ex q2, by rw [r1.length, r2.length]; exact len_line hl, fun z => ?_, fun _ z => ?_, fun _ _ p' hp => ?_⟩
      · have e := r1.nil_iff.mp z
        subst e
        exact k _ F H _ O S (Same.refl _) (.tup q2 r2) p
      · have e := r2.nil_iff.mp z
        subst e
        rw [List.append_nil] at p
        exact k _ F H _ O S (Same.refl _) (.tup q1 r1) p
      · have e2 : Same F (upd F p' (.tup (vs ++ ws))) := same_upd (S.fresh hp).1
        exact k _ _ _ _ _ (S.alloc hp (.tup (vs ++ ws))) e2 (.tup (SqT.of upd_same) ((r1.append r2).mono e2)) p
theorem we_catT {Φ : D → Own → Prop} (h : WE X B G O a fun d1 O1 => WE X B G O1 b fun d2 O2 => dCatT d1 d2 O2 Φ) : WE X B G O (.BinOp a .Add b pos) Φ := we_op op_catA dop_catT h
theorem pv_catT {xs ys : List D} (ha : PEv X B G O a (.tup xs)) (hb : PEv X B G O b (.tup ys)) (hl : xs.length + ys.length ≤ 1000000) : PEv X B G O (.BinOp a .Add b pos) (.tup (xs ++ ys)) :=
  we_catT (we_pv ha (we_pv hb ⟨xs, ys, rfl, rfl, hl, rfl, rfl⟩))
/-- texts joined -/
theorem pv_adds {x y : Str} (ha : PEv X B G O a (.str x)) (hb : PEv X B G O b (.str y)) (hl : x.length + y.length ≤ sizeLine) : PEv X B G O (.BinOp a .Add b pos) (.str (x ++ y)) :=
  pv_op (R := fun dx dy O Φ => ∃ i j, dx = .str i ∧ dy = .str j ∧ i.length + j.length ≤ sizeLine ∧ Φ (.str (i ++ j)) O) op_add_str (fun B G O F σ H x y dx dy Φ S rx ry h Q k => by
    obtain ⟨i, j, rfl, rfl, hl, p⟩ := h
    cases rx
    cases ry
    exact ⟨i, j, rfl, rfl, hl, k _ F H _ O S (Same.refl _) (.str _) p⟩) ha hb ⟨x, y, rfl, rfl, hl, rfl, rfl⟩

/-! ### slices -/
structure tSemO (X : Cx) (e : Option Expr) (σ : L2.St) (H : Hp) (Q : Option Int → Hp → Prop) : Prop where
  run : ∀ (pins : List (Addr × Obj)) (s : Shared), Inv X pins σ H s → wpAny (model X.prog X.w) X.A (evalPart e X.env) (fun u s' => ∃ o H', Inv X pins σ H' s' ∧ IsPart u o ∧ Q o H') X.xe s
theorem po_sem {e : Option Expr} : PO X e (tSemO X e) := ⟨fun pins s _ _ _ I h => h.run pins s I⟩
/-- a part of a slice -/
inductive PartV (X : Cx) (B : Bs) (G : Sl) (O : Own) : Option Expr → Option Int → Prop
  | none : PartV X B G O none none
  | some {e : Expr} {i : Int} : PEv X B G O e (.int i) → PartV X B G O (some e) (some i)
theorem PartV.run {e : Option Expr} {o : Option Int} (h : PartV X B G O e o) {F : Hp} {σ : L2.St} {H : Hp} (S : Sat X.K B G O F σ H) {Q : Option Int → Hp → Prop} (k : ∀ F' H', Sat X.K B G O F' σ H' → Same F F' → Q o H') : tSemO X e σ H Q := by
  cases h with
  | none => exact ⟨fun pins s I => po_none.run pins s σ H Q I (k F H S (Same.refl _))⟩
  | some h => exact ⟨fun pins s I => (po_some pe_sem).run pins s σ H Q I (h F σ H S _ fun v F' H' d O' S' e' r p => by
      obtain ⟨rfl, rfl⟩ := p
      cases r
      exact ⟨_, rfl, k F' H' S' e'⟩)⟩
def cutD (xs : List D) (lo hi : Option Int) : List D := (xs.drop (HT.sIx xs.length 0 lo)).take (HT.sIx xs.length xs.length hi - HT.sIx xs.length 0 lo)
theorem cut_rep {K : PySem.W.Frag} {F : Hp} {vs : List V} (r : Reps K F vs ds) (lo hi : Option Int) : Reps K F (cutV vs lo hi) (cutD ds lo hi) := by
  unfold cutV cutD
  rw [r.length]
  exact (r.drop _).take _
theorem pn_slice {lo hi : Option Expr} {l h : Option Int} {p2 : Pos} (ha : PEv X B G O a d1) (it : ItemsL O d1 ds) (hl : PartV X B G O lo l) (hh : PartV X B G O hi h) : PNv X B G O (.Subscript a (.Slice lo hi none p2) pos) (cutD ds l h) := fun F σ H S Q k =>
  sem (pe_slice sl_list pe_sem po_sem po_sem) (ha F σ H S _ fun v F1 H1 d O1 S1 e1 r1 p1 => by
    obtain ⟨rfl, rfl⟩ := p1
    refine hl.run S1 fun F2 H2 S2 e2 => hh.run S2 fun F3 H3 S3 e3 => ?_
    obtain ⟨a, vs, rfl, rs, q⟩ := itemsL_ok S3 ((r1.mono e2).mono e3) it
    exact ⟨a, vs, rfl, q, fun p hp => k p _ F3 _ _ (S3.allocOwn hp (ov := .lst (cutD ds l h)) ⟨_, upd_same, cut_rep rs l h⟩) ((e1.trans e2).trans e3) ⟨rfl, rfl⟩⟩)
theorem pv_sliceT {lo hi : Option Expr} {l h : Option Int} {p2 : Pos} (ha : PEv X B G O a (.tup ds)) (hl : PartV X B G O lo l) (hh : PartV X B G O hi h) : PEv X B G O (.Subscript a (.Slice lo hi none p2) pos) (.tup (cutD ds l h)) := fun F σ H S Q k =>
  sem (pe_slice sl_tupA pe_sem po_sem po_sem) (ha F σ H S _ fun v F1 H1 d O1 S1 e1 r1 p1 => by
    obtain ⟨rfl, rfl⟩ := p1
    refine hl.run S1 fun F2 H2 S2 e2 => hh.run S2 fun F3 H3 S3 e3 => ?_
    cases r1 with
    | tup q rs =>
      rename_i a vs
      have rs3 := (rs.mono e2).mono e3
      have q3 := sqT_mono e3 (sqT_mono e2 q)
      refine ⟨a, vs, rfl, sqT_mono S3.ex q3, fun z => ?_, fun _ p hp => ?_⟩
      · have e : cutD ds l h = ds := by
          unfold cutD
          rw [← rs.length, z.1, z.2]
          show List.take (vs.length - 0) ds = ds
          rw [Nat.sub_zero, rs.length]
          exact List.take_length
        rw [e] at k
        exact k _ F3 H3 _ _ S3 ((e1.trans e2).trans e3) (.tup q3 rs3) ⟨rfl, rfl⟩
      · have e4 : Same F3 (upd F3 p (.tup (cutV vs l h))) := same_upd (S3.fresh hp).1
        exact k _ _ _ _ _ (S3.alloc hp _) (((e1.trans e2).trans e3).trans e4) (.tup (SqT.of upd_same) ((cut_rep rs3 l h).mono e4)) ⟨rfl, rfl⟩)

/-! ### built-in calls -/
/-- no star -/
abbrev Plain1 (e : Expr) : Prop := ∀ (es : List Expr) (env : Env), starEach (e :: es) env = (false, eval e env) :: starEach es env
theorem plain_any {pos : Pos} (sb : Plain1 b) : (backTo pos (starEach [b] X.env)).any (·.1) = false := by rw [sb [] X.env] <;> rfl
abbrev DRC := List D → Own → (D → Own → Prop) → Prop
def DCall (X : Cx) (r : List V → Hp → VK → Prop) (R : DRC) : Prop := ∀ (B : Bs) (G : Sl) (O : Own) (F : Hp) (σ : L2.St) (H : Hp) (xs : List V) (ds : List D) (Φ : D → Own → Prop), Sat X.K B G O F σ H → Reps X.K F xs ds → R ds O Φ →
  ∀ Q : VK, (∀ v F' H' d O', Sat X.K B G O' F' σ H' → Same F F' → Rep X.K F' v d → Φ d O' → Q v H') → r xs H Q
def DCallN (X : Cx) (r : List V → Hp → VK → Prop) (R : List D → Own → (List D → Own → Prop) → Prop) : Prop := ∀ (B : Bs) (G : Sl) (O : Own) (F : Hp) (σ : L2.St) (H : Hp) (xs : List V) (ds : List D) (Φ : List D → Own → Prop), Sat X.K B G O F σ H → Reps X.K F xs ds → R ds O Φ →
  ∀ Q : VK, (∀ p ds F' H' O', Sat X.K B G ((p, OV.lst ds) :: O') F' σ H' → Same F F' → Φ ds O' → Q (.ref p) H') → r xs H Q
theorem we_callB {x : Str} {id : String} {r : List V → Hp → VK → Prop} {R : DRC} {p : Pos} {Φ : D → Own → Prop} (C : Cxt M X N sc vb lb gb) (hc : CallR X (.builtin id) r) (hd : DCall X r R) (hm : M.mg x = none) (hg : gb x = true) (hv : bootBuiltins x = some (.builtin id))
    (h : WA X B G O (e :: es) fun ds O' => R ds O' Φ) (hn : x ≠ "__name__" := by decide) (he : starEach (e :: es) X.env = (false, eval e X.env) :: starEach es X.env := by exact star_cons rfl) (hpl : (backTo pos (starEach es X.env)).any (·.1) = false := by rfl) : WE X B G O (.Call (.Name x p) (e :: es) [] pos) Φ := fun F σ H S Q k =>
  sem (pe_callB hc (C.gl x hg).1 (by rw [C.mg]; exact hm) hv pa_sem hn (C.gl x hg).2 he hpl) (h F σ H S _ fun vs F1 H1 ds O1 S1 e1 r1 p1 => hd B G O1 F1 σ H1 vs ds Φ S1 r1 p1 Q fun v F2 H2 d O2 S2 e2 r2 p2 => k v F2 H2 d O2 S2 (e1.trans e2) r2 p2)
theorem we_callTy {x : Str} {T : String} {r : List V → Hp → VK → Prop} {R : DRC} {p : Pos} {Φ : D → Own → Prop} (C : Cxt M X N sc vb lb gb) (hc : CallR X (.type T) r) (hd : DCall X r R) (hm : M.mg x = none) (hg : gb x = true) (hv : bootBuiltins x = some (.type T))
    (h : WA X B G O (e :: es) fun ds O' => R ds O' Φ) (hn : x ≠ "__name__" := by decide) (he : starEach (e :: es) X.env = (false, eval e X.env) :: starEach es X.env := by exact star_cons rfl) (hpl : (backTo pos (starEach es X.env)).any (·.1) = false := by rfl) : WE X B G O (.Call (.Name x p) (e :: es) [] pos) Φ := fun F σ H S Q k =>
  sem (pe_callTy hc (C.gl x hg).1 (by rw [C.mg]; exact hm) hv pa_sem hn (C.gl x hg).2 he hpl) (h F σ H S _ fun vs F1 H1 ds O1 S1 e1 r1 p1 => hd B G O1 F1 σ H1 vs ds Φ S1 r1 p1 Q fun v F2 H2 d O2 S2 e2 r2 p2 => k v F2 H2 d O2 S2 (e1.trans e2) r2 p2)
theorem wn_callB {x : Str} {id : String} {r : List V → Hp → VK → Prop} {R : List D → Own → (List D → Own → Prop) → Prop} {p : Pos} {Φ : List D → Own → Prop} (C : Cxt M X N sc vb lb gb) (hc : CallR X (.builtin id) r) (hd : DCallN X r R) (hm : M.mg x = none) (hg : gb x = true) (hv : bootBuiltins x = some (.builtin id))
    (h : WA X B G O (e :: es) fun ds O' => R ds O' Φ) (hn : x ≠ "__name__" := by decide) (he : starEach (e :: es) X.env = (false, eval e X.env) :: starEach es X.env := by exact star_cons rfl) (hpl : (backTo pos (starEach es X.env)).any (·.1) = false := by rfl) : WN X B G O (.Call (.Name x p) (e :: es) [] pos) Φ := fun F σ H S Q k =>
  sem (pe_callB hc (C.gl x hg).1 (by rw [C.mg]; exact hm) hv pa_sem hn (C.gl x hg).2 he hpl) (h F σ H S _ fun vs F1 H1 ds O1 S1 e1 r1 p1 => hd B G O1 F1 σ H1 vs ds Φ S1 r1 p1 Q fun p ds' F2 H2 O2 S2 e2 p2 => k p ds' F2 H2 O2 S2 (e1.trans e2) p2)
theorem wn_callTy {x : Str} {T : String} {r : List V → Hp → VK → Prop} {R : List D → Own → (List D → Own → Prop) → Prop} {p : Pos} {Φ : List D → Own → Prop} (C : Cxt M X N sc vb lb gb) (hc : CallR X (.type T) r) (hd : DCallN X r R) (hm : M.mg x = none) (hg : gb x = true) (hv : bootBuiltins x = some (.type T))
    (h : WA X B G O (e :: es) fun ds O' => R ds O' Φ) (hn : x ≠ "__name__" := by decide) (he : starEach (e :: es) X.env = (false, eval e X.env) :: starEach es X.env := by exact star_cons rfl) (hpl : (backTo pos (starEach es X.env)).any (·.1) = false := by rfl) : WN X B G O (.Call (.Name x p) (e :: es) [] pos) Φ := fun F σ H S Q k =>
  sem (pe_callTy hc (C.gl x hg).1 (by rw [C.mg]; exact hm) hv pa_sem hn (C.gl x hg).2 he hpl) (h F σ H S _ fun vs F1 H1 ds O1 S1 e1 r1 p1 => hd B G O1 F1 σ H1 vs ds Φ S1 r1 p1 Q fun p ds' F2 H2 O2 S2 e2 p2 => k p ds' F2 H2 O2 S2 (e1.trans e2) p2)
variable (C : Cxt M X N sc vb lb gb) {p : Pos}
theorem reps1 {K : PySem.W.Frag} {F : Hp} {xs : List V} {d : D} (r : Reps K F xs [d]) : ∃ v, xs = [v] ∧ Rep K F v d := by
  cases r with
  | cons r t => cases t; exact ⟨_, rfl, r⟩
theorem reps2 {K : PySem.W.Frag} {F : Hp} {xs : List V} {d d2 : D} (r : Reps K F xs [d, d2]) : ∃ v w, xs = [v, w] ∧ Rep K F v d ∧ Rep K F w d2 := by
  cases r with
  | cons r t =>
    cases t with
    | cons r2 t => cases t; exact ⟨_, _, rfl, r, r2⟩
include C
theorem pv_len (ha : PEv X B G O a d1) (it : Items O d1 ds) (hm : M.mg "len" = none) (hg : gb "len" = true) (sa : Plain1 a := by exact fun _ _ => star_cons rfl) : PEv X B G O (.Call (.Name "len" p) [a] [] pos) (.int ds.length) :=
  we_callB (R := fun xs O Φ => ∃ d ds, xs = [d] ∧ Items O d ds ∧ Φ (.int ds.length) O) C call_len_seq (fun B G O F σ H xs ds Φ S r h Q k => by
    obtain ⟨d, ds, rfl, it, q⟩ := h
    obtain ⟨v, rfl, rv⟩ := reps1 r
    obtain ⟨a, vs, rfl, rs, hq⟩ := items_ok S rv it
    refine ⟨a, vs, rfl, hq, ?_⟩
    rw [rs.length]
    exact k _ F H _ O S (Same.refl _) (.int _) q) hm hg PySem.boot_len (wa_cons (we_pv ha (wa_nil ⟨d1, ds, rfl, it, rfl, rfl⟩)) (sa _ _)) (he := sa _ _)
theorem pv_sum {ns : List Int} (ha : PEv X B G O a d1) (it : ItemsL O d1 (ns.map D.int)) (hm : M.mg "sum" = none) (hg : gb "sum" = true) (sa : Plain1 a := by exact fun _ _ => star_cons rfl) : PEv X B G O (.Call (.Name "sum" p) [a] [] pos) (.int ns.sum) :=
  we_callB (R := fun xs O Φ => ∃ d ns, xs = [d] ∧ ItemsL O d (ns.map D.int) ∧ Φ (.int ns.sum) O) C (cr_sum C.calm) (fun B G O F σ H xs ds Φ S r h Q k => by
    obtain ⟨d, ns, rfl, it, q⟩ := h
    obtain ⟨v, rfl, rv⟩ := reps1 r
    obtain ⟨a, vs, rfl, rs, hq⟩ := itemsL_ok S rv it
    rw [reps_ints rs] at hq
    exact ⟨a, ns, rfl, hq, k _ F H _ O S (Same.refl _) (.int _) q⟩) hm hg (by decide +kernel) (wa_cons (we_pv ha (wa_nil ⟨d1, ns, rfl, it, rfl, rfl⟩)) (sa _ _)) (he := sa _ _)
theorem pv_all {ns : List Bool} (ha : PEv X B G O a d1) (it : ItemsL O d1 (ns.map D.bl)) (hm : M.mg "all" = none) (hg : gb "all" = true) (sa : Plain1 a := by exact fun _ _ => star_cons rfl) : PEv X B G O (.Call (.Name "all" p) [a] [] pos) (.bl (ns.all id)) :=
  we_callB (R := fun xs O Φ => ∃ d ns, xs = [d] ∧ ItemsL O d (ns.map D.bl) ∧ Φ (.bl (ns.all id)) O) C (cr_all C.calm) (fun B G O F σ H xs ds Φ S r h Q k => by
    obtain ⟨d, ns, rfl, it, q⟩ := h
    obtain ⟨v, rfl, rv⟩ := reps1 r
    obtain ⟨a, vs, rfl, rs, hq⟩ := itemsL_ok S rv it
    rw [reps_bls rs] at hq
    exact ⟨a, ns, rfl, hq, k _ F H _ O S (Same.refl _) (.bl _) q⟩) hm hg (by decide +kernel) (wa_cons (we_pv ha (wa_nil ⟨d1, ns, rfl, it, rfl, rfl⟩)) (sa _ _)) (he := sa _ _)
theorem pv_min2 {j : Int} (ha : PEv X B G O a (.int i)) (hb : PEv X B G O b (.int j)) (hm : M.mg "min" = none) (hg : gb "min" = true) (sa : Plain1 a := by exact fun _ _ => star_cons rfl) (sb : Plain1 b := by exact fun _ _ => star_cons rfl) : PEv X B G O (.Call (.Name "min" p) [a, b] [] pos) (.int (if j < i then j else i)) :=
  we_callB (R := fun xs O Φ => ∃ i j, xs = [.int i, .int j] ∧ Φ (.int (if j < i then j else i)) O) C (call_min2 C.calm) (fun B G O F σ H xs ds Φ S r h Q k => by
    obtain ⟨i, j, rfl, q⟩ := h
    obtain ⟨v, w, rfl, rv, rw⟩ := reps2 r
    cases rv
    cases rw
    exact ⟨i, j, rfl, k _ F H _ O S (Same.refl _) (.int _) q⟩) hm hg (by decide +kernel) (wa_cons (we_pv ha (wa_cons (we_pv hb (wa_nil ⟨i, j, rfl, rfl, rfl⟩)) (sb _ _))) (sa _ _)) (he := sa _ _) (hpl := plain_any sb)
theorem pv_max2 {j : Int} (ha : PEv X B G O a (.int i)) (hb : PEv X B G O b (.int j)) (hm : M.mg "max" = none) (hg : gb "max" = true) (sa : Plain1 a := by exact fun _ _ => star_cons rfl) (sb : Plain1 b := by exact fun _ _ => star_cons rfl) : PEv X B G O (.Call (.Name "max" p) [a, b] [] pos) (.int (if j > i then j else i)) :=
  we_callB (R := fun xs O Φ => ∃ i j, xs = [.int i, .int j] ∧ Φ (.int (if j > i then j else i)) O) C (call_max2 C.calm) (fun B G O F σ H xs ds Φ S r h Q k => by
    obtain ⟨i, j, rfl, q⟩ := h
    obtain ⟨v, w, rfl, rv, rw⟩ := reps2 r
    cases rv
    cases rw
    exact ⟨i, j, rfl, k _ F H _ O S (Same.refl _) (.int _) q⟩) hm hg (by decide +kernel) (wa_cons (we_pv ha (wa_cons (we_pv hb (wa_nil ⟨i, j, rfl, rfl, rfl⟩)) (sb _ _))) (sa _ _)) (he := sa _ _) (hpl := plain_any sb)
/-- tuple(xs) -/
theorem pv_tuple (ha : PEv X B G O a d1) (it : Items O d1 ds) (hm : M.mg "tuple" = none) (hg : gb "tuple" = true) (sa : Plain1 a := by exact fun _ _ => star_cons rfl) : PEv X B G O (.Call (.Name "tuple" p) [a] [] pos) (.tup ds) :=
  we_callTy (R := fun xs O Φ => ∃ d ds, xs = [d] ∧ Items O d ds ∧ Φ (.tup ds) O) C call_tuple_of (fun B G O F σ H xs ds Φ S r h Q k => by
    obtain ⟨d, ds, rfl, it, q⟩ := h
    obtain ⟨v, rfl, rv⟩ := reps1 r
    have lst : ∀ {d : D} {ds : List D}, Rep X.K F v d → ItemsL O d ds → Φ (.tup ds) O → (fun xs H Q => ∃ p ys, xs = [V.ref p] ∧ ((SqL X.K H p ys ∧ ∀ l, H l = none → Q (.ref l) (upd H l (.tup ys))) ∨ (SqT X.K H p ys ∧ Q (.ref p) H))) [v] H Q := fun {d ds} rv it q => by
      obtain ⟨a, vs, rfl, rs, hq⟩ := itemsL_ok S rv it
      refine ⟨a, vs, rfl, .inl ⟨hq, fun l hl => ?_⟩⟩
      have e2 : Same F (upd F l (.tup vs)) := same_upd (S.fresh hl).1
      exact k _ _ _ _ _ (S.alloc hl _) e2 (.tup (SqT.of upd_same) (rs.mono e2)) q
    cases it with
    | tup =>
      cases rv with
      | tup h rs => exact ⟨_, _, rfl, .inr ⟨sqT_mono S.ex h, k _ F H _ O S (Same.refl _) (.tup h rs) q⟩⟩
    | lst => exact lst rv .lst q
    | own hm => exact lst rv (.own hm) q) hm hg (by decide +kernel) (wa_cons (we_pv ha (wa_nil ⟨d1, ds, rfl, it, rfl, rfl⟩)) (sa _ _)) (he := sa _ _)
/-- list(xs) -/
theorem pn_list (ha : PEv X B G O a d1) (it : Items O d1 ds) (hm : M.mg "list" = none) (hg : gb "list" = true) (sa : Plain1 a := by exact fun _ _ => star_cons rfl) : PNv X B G O (.Call (.Name "list" p) [a] [] pos) ds :=
  wn_callTy (R := fun xs O Φ => ∃ d ds, xs = [d] ∧ Items O d ds ∧ Φ ds O) C call_list_of (fun B G O F σ H xs ds Φ S r h Q k => by
    obtain ⟨d, ds, rfl, it, q⟩ := h
    obtain ⟨v, rfl, rv⟩ := reps1 r
    obtain ⟨a, vs, rfl, rs, hq⟩ := items_ok S rv it
    exact ⟨a, vs, rfl, hq, fun l hl => k l ds F _ O (S.allocOwn hl (ov := .lst ds) ⟨vs, upd_same, rs⟩) (Same.refl _) q⟩) hm hg (by decide +kernel) (wa_cons (we_pv ha (wa_nil ⟨d1, ds, rfl, it, rfl, rfl⟩)) (sa _ _)) (he := sa _ _)
end
end Dl

set_option Elab.async false
set_option linter.all false
set_option maxRecDepth 100000
set_option maxHeartbeats 2000000
/-! D3: statements, targets, loops, comprehensions. -/
namespace Dl
open PySem PySem.Spec PyProof.Rows L2

/-! ### the frame rule -/
theorem keys_app {O1 O2 : Own} : keys (O1 ++ O2) = keys O1 ++ keys O2 := List.map_append
section
variable {K : PySem.W.Frag} {B : Bs} {G G' : Sl} {O1 O2 O1' : Own} {F F' H H' : Hp} {σ σ' : L2.St}
/-- what a part of the state does leaves the rest -/
theorem Sat.frame (S : Sat K B G (O1 ++ O2) F σ H) (S' : Sat K ⟨F, H, keys O1⟩ G' O1' F' σ' H') : Sat K B G (O1' ++ O2) F' σ H' := by
  have nd := S.nd
  rw [keys_app] at nd
  obtain ⟨n1, n2, n3⟩ := List.nodup_append.mp nd
  have fr : ∀ p ∈ O2, H' p.1 = H p.1 ∧ F' p.1 = none ∧ p.1 ∉ keys O1' := fun p hp => by
    have hm : p ∈ O1 ++ O2 := List.mem_append_right _ hp
    obtain ⟨o, ho⟩ := S.lt hm
    obtain ⟨h1, h2, h3⟩ := S'.bH p.1 o ho (S.own p hm).1 (fun z => n3 _ z _ (mem_keys hp) rfl)
    exact ⟨h1.trans ho.symm, h2, h3⟩
  refine ⟨S.len, fun i d e => ?_, S'.ex, ?_, fun p hp => ?_, S.bF.trans S'.bF, fun a o e1 e2 e3 => ?_⟩
  · obtain ⟨v, h1, h2⟩ := S.slot i d e
    exact ⟨v, h1, h2.mono S'.bF⟩
  · rw [keys_app]
    refine List.nodup_append.mpr ⟨S'.nd, n2, fun a ha b hb e => ?_⟩
    obtain ⟨ov, hm⟩ := keys_mem hb
    exact (fr _ hm).2.2 (e ▸ ha)
  · rcases List.mem_append.mp hp with hp | hp
    · exact S'.own p hp
    · obtain ⟨h1, h2, _⟩ := fr p hp
      exact ⟨h2, (S.own p (List.mem_append_right _ hp)).2.mono S'.bF h1⟩
  · obtain ⟨h1, h2, h3⟩ := S.bH a o e1 e2 e3
    rw [keys_app] at h3
    obtain ⟨q1, q2, q3⟩ := S'.bH a o h1 h2 (fun z => h3 (List.mem_append_left _ z))
    refine ⟨q1, q2, fun z => ?_⟩
    rw [keys_app] at z
    rcases List.mem_append.mp z with z | z
    · exact q3 z
    · exact h3 (List.mem_append_right _ z)
theorem Sat.perm {O O' : Own} (S : Sat K B G O F σ H) (h : O.Perm O') : Sat K B G O' F σ H := by
  have hk : (keys O).Perm (keys O') := h.map _
  refine ⟨S.len, S.slot, S.ex, hk.nodup_iff.mp S.nd, fun p hp => S.own p (h.mem_iff.mpr hp), S.bF, fun a o e1 e2 e3 => ?_⟩
  obtain ⟨h1, h2, h3⟩ := S.bH a o e1 e2 e3
  exact ⟨h1, h2, fun z => h3 (hk.mem_iff.mpr z)⟩
/-- the part of the state that is handed on -/
theorem Sat.part {Gs : Sl} {τ : L2.St} (S : Sat K B G (O1 ++ O2) F σ H) (hl : τ.length = Gs.length) (hs : ∀ (i : Nat) (d : D), Gs[i]? = some (some d) → ∃ v, τ[i]? = some (some v) ∧ Rep K F v d) : Sat K ⟨F, H, keys O1⟩ Gs O1 F τ H := by
  have nd := S.nd
  rw [keys_app] at nd
  exact ⟨hl, hs, S.ex, (List.nodup_append.mp nd).1, fun p hp => S.own p (List.mem_append_left _ hp), Same.refl _, fun a o e1 e2 e3 => ⟨e1, e2, e3⟩⟩
end

/-! ### statements -/
structure EndsD where
  nx : Sl → Own → Prop
  rt : D → Own → Prop
  bk : Sl → Own → Prop := fun _ _ => False
  ct : Sl → Own → Prop := fun _ _ => False
def EndsD.to (E : EndsD) (n : Sl → Own → Prop) : EndsD := ⟨n, E.rt, E.bk, E.ct⟩
def EndsD.loop (E : EndsD) (n : Sl → Own → Prop) : EndsD := ⟨n, E.rt, E.nx, n⟩
def EndsD.fn (Φ : D → Own → Prop) : EndsD := ⟨fun _ O' => Φ .non O', Φ, fun _ _ => False, fun _ _ => False⟩
section
variable {E : EndsD} {n : Sl → Own → Prop} {Φ : D → Own → Prop}
theorem to_nx : (E.to n).nx = n := rfl
theorem to_rt : (E.to n).rt = E.rt := rfl
theorem to_bk : (E.to n).bk = E.bk := rfl
theorem to_ct : (E.to n).ct = E.ct := rfl
theorem loop_nx : (E.loop n).nx = n := rfl
theorem loop_rt : (E.loop n).rt = E.rt := rfl
theorem loop_bk : (E.loop n).bk = E.nx := rfl
theorem loop_ct : (E.loop n).ct = n := rfl
theorem fn_nx : (EndsD.fn Φ).nx = fun _ O' => Φ .non O' := rfl
theorem fn_rt : (EndsD.fn Φ).rt = Φ := rfl
end
structure EOk (K : PySem.W.Frag) (B : Bs) (F : Hp) (E : EndsD) (D' : Ends) : Prop where
  nx : ∀ G' O' F' σ' H', Sat K B G' O' F' σ' H' → Same F F' → E.nx G' O' → D'.nx σ' H'
  rt : ∀ G' O' F' σ' H' v d, Sat K B G' O' F' σ' H' → Same F F' → Rep K F' v d → E.rt d O' → D'.rt v H'
  bk : ∀ G' O' F' σ' H', Sat K B G' O' F' σ' H' → Same F F' → E.bk G' O' → D'.bk σ' H'
  ct : ∀ G' O' F' σ' H', Sat K B G' O' F' σ' H' → Same F F' → E.ct G' O' → D'.ct σ' H'
theorem EOk.mono {K : PySem.W.Frag} {B : Bs} {F F' : Hp} {E : EndsD} {D' : Ends} (k : EOk K B F E D') (e : Same F F') : EOk K B F' E D' :=
  ⟨fun a b c d f g h i => k.nx a b c d f g (e.trans h) i, fun a b c d f v w g h r i => k.rt a b c d f v w g (e.trans h) r i, fun a b c d f g h i => k.bk a b c d f g (e.trans h) i, fun a b c d f g h i => k.ct a b c d f g (e.trans h) i⟩
section
variable (X : Cx) (B : Bs) (G : Sl) (O : Own)
def WS (st : Stmt) (E : EndsD) : Prop := ∀ F σ H, Sat X.K B G O F σ H → ∀ D' : Ends, EOk X.K B F E D' → tSemS X st D' σ H
def WSs (st : List Stmt) (E : EndsD) : Prop := ∀ F σ H, Sat X.K B G O F σ H → ∀ D' : Ends, EOk X.K B F E D' → tSemSs X st D' σ H
def Touch (vs : Nat → Prop) (σ σ' : L2.St) : Prop := σ'.length = σ.length ∧ ∀ j, ¬ vs j → σ'[j]? = σ[j]?
def WG (tg : Expr) (vs : Nat → Prop) (d : D) (Φ : Sl → Own → Prop) : Prop := ∀ F σ H v, Sat X.K B G O F σ H → Rep X.K F v d → ∀ Q : L2.St → Hp → Prop,
  (∀ G' O' F' σ' H', Sat X.K B G' O' F' σ' H' → Same F F' → Touch vs σ σ' → Φ G' O' → Q σ' H') → tSemG X tg v σ H Q
/-- what a for walks: the iterator gives ds while what is locked stays -/
structure JOk (K : PySem.W.Frag) (J : It) (F : Hp) (lk : Own) (ds : List D) : Prop where
  go : ∀ i F2 H2, Same F F2 → Same F2 H2 → (∀ p ∈ lk, ORep K F2 H2 p.1 p.2) → i < ds.length → J.go i H2
  stop : ∀ F2 H2, Same F F2 → Same F2 H2 → (∀ p ∈ lk, ORep K F2 H2 p.1 p.2) → J.stop ds.length H2
  yld : ∀ i F2 H2 x H3, Same F F2 → Same F2 H2 → (∀ p ∈ lk, ORep K F2 H2 p.1 p.2) → i < ds.length → J.yld i H2 x H3 → ∃ d, ds[i]? = some d ∧ ((H3 = H2 ∧ Rep K F2 x d) ∨ ∃ p o, H2 p = none ∧ H3 = upd H2 p o ∧ Rep K (upd F2 p o) x d)
def WI (tg iter : Expr) (Φ : List D → Own → Own → Prop) : Prop := ∀ F σ H, Sat X.K B G O F σ H → ∀ R : It → Hp → Prop,
  (∀ J F' H' ds lk O', Sat X.K B G O' F' σ H' → Same F F' → JOk X.K J F' lk ds → Φ ds lk O' → R J H') → tSemI X tg iter σ H R
def WIv (tg iter : Expr) (ds : List D) (lk : Own) : Prop := WI X B G O tg iter fun ds' lk' O' => ds' = ds ∧ lk' = lk ∧ O' = O
end
theorem Touch.refl {vs : Nat → Prop} {σ : L2.St} : Touch vs σ σ := ⟨rfl, fun _ _ => rfl⟩
theorem Touch.trans {vs : Nat → Prop} {σ σ1 σ2 : L2.St} (a : Touch vs σ σ1) (b : Touch vs σ1 σ2) : Touch vs σ σ2 := ⟨b.1.trans a.1, fun j h => (b.2 j h).trans (a.2 j h)⟩
section
variable {M : Mach} {X : Cx} {N : List Str} {sc : Scope} {vb lb gb : Str → Bool} {B : Bs} {G : Sl} {O : Own} {e a b : Expr} {es : List Expr} {pos : Pos} {d d1 d2 : D} {ds : List D} {E : EndsD} {st : Stmt} {rest : List Stmt}
theorem WI.mono {tg iter : Expr} {Φ Ψ : List D → Own → Own → Prop} (h : WI X B G O tg iter Φ) (k : ∀ a b c, Φ a b c → Ψ a b c) : WI X B G O tg iter Ψ := fun F σ H S R q => h F σ H S R fun J F' H' ds lk O' S' e' j p => q J F' H' ds lk O' S' e' j (k _ _ _ p)
theorem wi_v {tg iter : Expr} {Φ : List D → Own → Own → Prop} {lk : Own} (h : WIv X B G O tg iter ds lk) (q : Φ ds lk O) : WI X B G O tg iter Φ := h.mono fun _ _ _ z => by rw [z.1, z.2.1, z.2.2]; exact q
theorem wss_nil (h : E.nx G O) : WSs X B G O [] E := fun F σ H S D' k => semSs pss_nil (k.nx G O F σ H S (Same.refl _) h)
theorem wss_cons (h : WS X B G O st (E.to fun G' O' => WSs X B G' O' rest E)) : WSs X B G O (st :: rest) E := fun F σ H S D' k => semSs (pss_cons ps_sem pss_sem)
  (h F σ H S { D' with nx := tSemSs X rest D' } ⟨fun G' O' F' σ' H' S' e' p => p F' σ' H' S' D' (k.mono e'), k.rt, k.bk, k.ct⟩)
theorem wss_one (h : WS X B G O st E) : WSs X B G O [st] E := fun F σ H S D' k => semSs (pss_one ps_sem) (h F σ H S D' k)
theorem WSs.mono {E' : EndsD} {sts : List Stmt} (h : WSs X B G O sts E) (k1 : ∀ G O, E.nx G O → E'.nx G O) (k2 : ∀ G O, E.rt G O → E'.rt G O) (k3 : ∀ G O, E.bk G O → E'.bk G O) (k4 : ∀ G O, E.ct G O → E'.ct G O) : WSs X B G O sts E' := fun F σ H S D' k =>
  h F σ H S D' ⟨fun G' O' F' σ' H' S' e' p => k.nx G' O' F' σ' H' S' e' (k1 _ _ p), fun G' O' F' σ' H' v d S' e' r p => k.rt G' O' F' σ' H' v d S' e' r (k2 _ _ p), fun G' O' F' σ' H' S' e' p => k.bk G' O' F' σ' H' S' e' (k3 _ _ p), fun G' O' F' σ' H' S' e' p => k.ct G' O' F' σ' H' S' e' (k4 _ _ p)⟩
/-- a word between -/
theorem wss_cut {Mid : Sl → Own → Prop} {st : Stmt} (h : WS X B G O st (E.to Mid)) (k : ∀ G' O', Mid G' O' → WSs X B G' O' rest E) : WSs X B G O (st :: rest) E := wss_cons fun F σ H S D' ok =>
  h F σ H S D' ⟨fun G' O' F' σ' H' S' e' p => ok.nx G' O' F' σ' H' S' e' (k _ _ p), ok.rt, ok.bk, ok.ct⟩
/-- an owned list in a slot is from here on never changed -/
inductive FrzAt : Sl → Addr → D → Sl → Prop
  | nil {a : Addr} {d : D} : FrzAt [] a d []
  | hit {a : Addr} {d : D} {r r' : Sl} : FrzAt r a d r' → FrzAt (some (.obj a) :: r) a d (some d :: r')
  | miss {a : Addr} {d : D} {g : Option D} {r r' : Sl} : FrzAt r a d r' → FrzAt (g :: r) a d (g :: r')
theorem FrzAt.ix : ∀ {G G' : Sl} {a : Addr} {d : D}, FrzAt G a d G' → G'.length = G.length ∧ ∀ (i : Nat) (y : D), G'[i]? = some (some y) → G[i]? = some (some y) ∨ (y = d ∧ G[i]? = some (some (.obj a)))
  | _, _, _, _, .nil => ⟨rfl, fun i y e => by simp at e⟩
  | _, _, _, _, .hit h => by
    obtain ⟨h1, h2⟩ := FrzAt.ix h
    refine ⟨by rw [List.length_cons, List.length_cons, h1], fun i y e => ?_⟩
    cases i with
    | zero => simp at e; subst e; exact .inr ⟨rfl, rfl⟩
    | succ i => simpa using h2 i y (by simpa using e)
  | _, _, _, _, .miss h => by
    obtain ⟨h1, h2⟩ := FrzAt.ix h
    refine ⟨by rw [List.length_cons, List.length_cons, h1], fun i y e => ?_⟩
    cases i with
    | zero => exact .inl (by simpa using e)
    | succ i => simpa using h2 i y (by simpa using e)
theorem wss_freeze {p : Addr} {O' : Own} {G' : Sl} {sts : List Stmt} (hd : ODel O p (.lst ds) O') (hg : FrzAt G p (.lst ds) G') (h : WSs X B G' O' sts E) : WSs X B G O sts E := fun F σ H S D' k => by
  obtain ⟨vs, hv, r, e2, S2⟩ := S.freeze hd
  obtain ⟨l1, l2⟩ := hg.ix
  refine h _ σ H (S2.slots (G' := G') (by rw [S2.len, l1]) fun i y e => ?_) D' (k.mono e2)
  rcases l2 i y e with z | ⟨rfl, z⟩
  · exact S2.slot i y z
  · obtain ⟨v, h1, h2⟩ := S2.slot i _ z
    cases h2
    exact ⟨_, h1, .lst (SqL.of upd_same) (r.mono e2)⟩
/-- less is said -/
theorem wss_forget {O' : Own} {sts : List Stmt} (hs : O'.Sublist O) (h : WSs X B G O' sts E) : WSs X B G O sts E := fun F σ H S D' k =>
  h F σ H (S.sub (fun p hp => hs.subset hp) ((hs.map _).nodup S.nd)) D' k
theorem ws_pass (h : E.nx G O) : WS X B G O (.Pass pos) E := fun F σ H S D' k => semS ps_pass (k.nx G O F σ H S (Same.refl _) h)
theorem ws_break (h : E.bk G O) : WS X B G O (.Break pos) E := fun F σ H S D' k => semS ps_break (k.bk G O F σ H S (Same.refl _) h)
theorem ws_continue (h : E.ct G O) : WS X B G O (.Continue pos) E := fun F σ H S D' k => semS ps_continue (k.ct G O F σ H S (Same.refl _) h)
theorem ws_expr (h : WE X B G O e fun _ O' => E.nx G O') (hs : swapsWith e none pos.line X.env = pure false := by rfl) : WS X B G O (.Expr e pos) E := fun F σ H S D' k =>
  semS (ps_expr pe_sem hs) (h F σ H S _ fun v F' H' d O' S' e' r p => k.nx G O' F' σ H' S' e' p)
theorem ws_ret (h : WE X B G O e E.rt) : WS X B G O (.Return (some e) pos) E := fun F σ H S D' k =>
  semS (ps_ret pe_sem) (h F σ H S _ fun v F' H' d O' S' e' r p => k.rt G O' F' σ H' v d S' e' r p)
theorem ws_retN (h : E.rt .non O) : WS X B G O (.Return none pos) E := fun F σ H S D' k => semS ps_retN (k.rt G O F σ H .non .non S (Same.refl _) .non h)
theorem ws_if {x y : List Stmt} (h : WT X B G O e fun c O' => if c = true then WSs X B G O' x E else WSs X B G O' y E) : WS X B G O (.If e x y pos) E := fun F σ H S D' k =>
  semS (ps_if pt_sem pss_sem pss_sem) (h F σ H S _ fun c F' H' O' S' e' p => by
    cases c with
    | true => exact p F' σ H' S' D' (k.mono e')
    | false => exact p F' σ H' S' D' (k.mono e'))
theorem ws_ifv {x y : List Stmt} {c : Bool} (ht : PTv X B G O e c) (h1 : c = true → WSs X B G O x E) (h2 : c = false → WSs X B G O y E) : WS X B G O (.If e x y pos) E := ws_if (wt_pv ht (by
  cases c with
  | true => exact h1 rfl
  | false => exact h2 rfl))

/-! ### targets -/
theorem wg_name {x : Str} {i : Nat} {f : D → Sl} {vs : Nat → Prop} {Φ : Sl → Own → Prop} (C : Cxt M X N sc vb lb gb) (h : SetAt N G x i f) (hl : lb x = true) (hv : vs i) (q : Φ (f d) O) : WG X B G O (.Name x pos) vs d Φ := fun F σ H v S r Q k => by
  obtain ⟨h1, h2⟩ := h.ix
  obtain ⟨l1, l2⟩ := C.loc x hl
  refine semG (pg_name (i := i) (by rw [C.hN]; exact C.nd) (by rw [C.hN]; exact h1) l1 l2) ?_
  rw [h2] at q
  exact k _ O F _ H (S.set r) (Same.refl _) ⟨List.length_set, fun j hj => List.getElem?_set_ne fun e => hj (by rw [← e]; exact hv)⟩ q
structure tSemGs (X : Cx) (ts : List Expr) (vs : List V) (σ : L2.St) (H : Hp) (Q : L2.St → Hp → Prop) : Prop where
  run : ∀ (pins : List (Addr × Obj)) (s : Shared) (us : List Value), Inv X pins σ H s → Vals vs us →
    wpAny (model X.prog X.w) X.A (assignInOrder ((assignEach ts X.env).map (·.2)) us) (fun _ s' => ∃ σ' H', Inv X pins σ' H' s' ∧ Q σ' H') X.xe s
theorem pgs_sem {ts : List Expr} : PGs X ts (tSemGs X ts) := ⟨fun pins s _ _ _ us _ I r h => h.run pins s us I r⟩
def WGs (X : Cx) (B : Bs) (G : Sl) (O : Own) (ts : List Expr) (vs : Nat → Prop) (ds : List D) (Φ : Sl → Own → Prop) : Prop := ∀ F σ H xs, Sat X.K B G O F σ H → Reps X.K F xs ds → ∀ Q : L2.St → Hp → Prop,
  (∀ G' O' F' σ' H', Sat X.K B G' O' F' σ' H' → Same F F' → Touch vs σ σ' → Φ G' O' → Q σ' H') → tSemGs X ts xs σ H Q
theorem wgs_nil {vs : Nat → Prop} {Φ : Sl → Own → Prop} (q : Φ G O) : WGs X B G O [] vs [] Φ := fun F σ H xs S r Q k => ⟨fun pins s us I rv => by
  cases r
  exact pgs_nil.run pins s σ H [] us Q I rv ⟨rfl, k G O F σ H S (Same.refl _) Touch.refl q⟩⟩
theorem wgs_cons {t : Expr} {ts : List Expr} {vs : Nat → Prop} {Φ : Sl → Own → Prop} (h : WG X B G O t vs d fun G' O' => WGs X B G' O' ts vs ds Φ) (hs : (assignEach (t :: ts) X.env).map (·.2) = assign t X.env :: (assignEach ts X.env).map (·.2) := by rfl) : WGs X B G O (t :: ts) vs (d :: ds) Φ :=
  fun F σ H xs S r Q k => ⟨fun pins s us I rv => by
    cases r with
    | cons r1 r2 =>
      rename_i v xr
      exact (pgs_cons pg_sem pgs_sem hs).run pins s σ H _ us Q I rv ⟨v, xr, rfl, h F σ H v S r1 _ fun G' O' F' σ' H' S' e' t' p => p F' σ' H' xr S' (r2.mono e') Q fun G2 O2 F2 σ2 H2 S2 e2 t2 p2 => k G2 O2 F2 σ2 H2 S2 (e'.trans e2) (t'.trans t2) p2⟩⟩
theorem wg_tup {ts : List Expr} {j : Nat} {vs : Nat → Prop} {Φ : Sl → Own → Prop} (C : Cxt M X N sc vb lb gb) (h : WGs X B G O ts vs ds Φ) (hn : (assignEach ts X.env).length = ds.length := by rfl) (hst : (assignEach ts X.env).findIdx? (·.1) = none := by rfl) : WG X B G O (.Tuple ts j pos) vs (.tup ds) Φ :=
  fun F σ H v S r Q k => by
    cases r with
    | tup hq rs => exact semG (pg_tup C.calm pgs_sem hn hst) ⟨_, _, rfl, sqT_mono S.ex hq, rs.length, h F σ H _ S rs Q k⟩

/-! ### assignment -/
theorem ws_asg {tg : Expr} {vs : Nat → Prop} (h : WE X B G O e fun d O' => WG X B G O' tg vs d E.nx) (hs : swapsWithSole [tg] e pos.line X.env = pure false := by rfl) (hw : swappedStores [tg] e X.env = pure none := by rfl)
    (h1 : (assignEach [tg] X.env).map (·.2) = [assign tg X.env] := by rfl) : WS X B G O (.Assign [tg] e pos) E := fun F σ H S D' k =>
  semS (ps_asg pe_sem pg_sem hs hw h1) (h F σ H S _ fun v F' H' d O' S' e' r p => p F' σ H' v S' r _ fun G2 O2 F2 σ2 H2 S2 e2 _ p2 => k.nx G2 O2 F2 σ2 H2 S2 (e'.trans e2) p2)
theorem ws_set {x : Str} {i : Nat} {f : D → Sl} {pos' : Pos} (C : Cxt M X N sc vb lb gb) (h : SetAt N G x i f) (hl : lb x = true) (he : WE X B G O e fun d O' => E.nx (f d) O') (hs : swapsWith e (some (.Name x pos')) pos.line X.env = pure false := by rfl) : WS X B G O (.Assign [.Name x pos'] e pos) E := fun F σ H S D' k => by
  obtain ⟨h1, h2⟩ := h.ix
  obtain ⟨l1, l2⟩ := C.loc x hl
  refine semS (ps_set (i := i) (by rw [C.hN]; exact C.nd) (by rw [C.hN]; exact h1) l1 pe_sem hs l2) ?_
  exact he F σ H S _ fun v F' H' d O' S' e' r p => by
    have p' : E.nx (f d) O' := p
    rw [h2] at p'
    exact k.nx _ O' F' _ H' (S'.set r) e' p'
/-- x op= e of ints -/
theorem ws_augI {x : Str} {i : Nat} {f : D → Sl} {pos' : Pos} {op : Operator} {g : Int → Int → Int} {n : Int} (C : Cxt M X N sc vb lb gb) (ho : PIp X op (ipI g)) (hv : VarAt N G x (.int n)) (h : SetAt N G x i f) (hl : lb x = true)
    (he : WE X B G O e fun d O' => ∃ j, d = .int j ∧ E.nx (f (.int (g n j))) O') : WS X B G O (.AugAssign (.Name x pos') op e pos) E := fun F σ H S D' k => by
  obtain ⟨h1, h2⟩ := h.ix
  obtain ⟨l1, l2⟩ := C.loc x hl
  obtain ⟨j, k1, k2⟩ := hv.ix
  have ej : j = i := nodup_ix C.nd k1 h1
  subst ej
  obtain ⟨v, ev, rv⟩ := S.slot j _ k2
  cases rv
  refine semS (ps_aug (i := j) (by rw [C.hN]; exact C.nd) (by rw [C.hN]; exact h1) l1 pe_sem ho l2) ⟨_, ev, ?_⟩
  exact he F σ H S _ fun v F' H' d O' S' e' r p => by
    obtain ⟨m, rfl, p⟩ := p
    cases r
    rw [h2] at p
    exact ⟨n, m, rfl, rfl, k.nx _ O' F' _ H' (S'.set (.int _)) e' p⟩
end

/-! ### for, while -/
section
variable {M : Mach} {X : Cx} {N : List Str} {sc : Scope} {vb lb gb : Str → Bool} {B : Bs} {G : Sl} {O : Own} {e a b : Expr} {es : List Expr} {pos : Pos} {d d1 d2 : D} {ds : List D} {E : EndsD}
theorem JOk.turn {K : PySem.W.Frag} {J : It} {F F2 H2 : Hp} {lk O2 : Own} {σ : L2.St} (j : JOk K J F lk ds) (S : Sat K B G O2 F2 σ H2) (e : Same F F2) (hl : ∀ p ∈ lk, p ∈ O2) {i : Nat} (hi : i < ds.length) {x : V} {H3 : Hp} (y : J.yld i H2 x H3) :
    ∃ d F3, ds[i]? = some d ∧ Sat K B G O2 F3 σ H3 ∧ Same F2 F3 ∧ Rep K F3 x d := by
  obtain ⟨d, hd, ⟨rfl, r⟩ | ⟨p, o, hp, rfl, r⟩⟩ := j.yld i F2 H2 x H3 e S.ex (fun p hp => (S.own p (hl p hp)).2) hi y
  · exact ⟨d, F2, hd, S, Same.refl _, r⟩
  · exact ⟨d, _, hd, S.alloc hp o, same_upd (S.fresh hp).1, r⟩
theorem ws_for {tg iter : Expr} {body : List Stmt} (C : Cxt M X N sc vb lb gb)
    (h : WI X B G O tg iter fun ds lk O1 => ∃ I : Nat → Sl → Own → Prop, I 0 G O1 ∧ (∀ i G' O', i ≤ ds.length → I i G' O' → ∀ p ∈ lk, p ∈ O') ∧
      (∀ i d G' O', ds[i]? = some d → I i G' O' → WG X B G' O' tg (fun _ => True) d fun G2 O2 => WSs X B G2 O2 body (E.loop (I (i + 1)))) ∧ (∀ G' O', I ds.length G' O' → E.nx G' O'))
    (hs : ∀ x, foldedSetIterable iter X.env x = pure x := by intro _; rfl) : WS X B G O (.For tg iter body [] pos) E := fun F σ H S D' k =>
  semS (ps_for C.own C.calm pi_sem pg_sem pss_sem hs) (h F σ H S _ fun J F1 H1 ds lk O1 S1 e1 j p => by
    obtain ⟨I, i0, il, is, id⟩ := p
    refine ⟨fun i m σ H => m = ds.length - i ∧ i ≤ ds.length ∧ ∃ G' O' F', Sat X.K B G' O' F' σ H ∧ Same F1 F' ∧ I i G' O', ⟨_, rfl, Nat.zero_le _, G, O1, F1, S1, Same.refl _, i0⟩, ?_⟩
    rintro i m σ2 H2 ⟨rfl, hi, G2, O2, F2, S2, e2, p2⟩
    have lk2 := il i G2 O2 hi p2
    have lk2' : ∀ p ∈ lk, ORep X.K F2 H2 p.1 p.2 := fun p hp => (S2.own p (lk2 p hp)).2
    by_cases hlt : i < ds.length
    · refine .inr ⟨j.go i F2 H2 e2 S2.ex lk2' hlt, fun σ' H' => ∃ G' O' F', Sat X.K B G' O' F' σ' H' ∧ Same F1 F' ∧ I (i + 1) G' O', fun σ' H' q => ⟨ds.length - (i + 1), by omega, rfl, hlt, q⟩, fun x H3 y => ?_⟩
      obtain ⟨d, F3, hd, S3, e3, r3⟩ := j.turn S2 e2 lk2 hlt y
      refine is i d G2 O2 hd p2 F3 σ2 H3 x S3 r3 _ fun G4 O4 F4 σ4 H4 S4 e4 _ p4 => ?_
      have ee : Same F1 F4 := (e2.trans e3).trans e4
      exact p4 F4 σ4 H4 S4 _ ⟨fun G5 O5 F5 σ5 H5 S5 e5 p5 => ⟨G5, O5, F5, S5, ee.trans e5, p5⟩, fun G5 O5 F5 σ5 H5 v d S5 e5 r5 p5 => k.rt G5 O5 F5 σ5 H5 v d S5 (e1.trans (ee.trans e5)) r5 p5, fun G5 O5 F5 σ5 H5 S5 e5 p5 => k.nx G5 O5 F5 σ5 H5 S5 (e1.trans (ee.trans e5)) p5, fun G5 O5 F5 σ5 H5 S5 e5 p5 => ⟨G5, O5, F5, S5, ee.trans e5, p5⟩⟩
    · have ei : i = ds.length := by omega
      subst ei
      exact .inl ⟨j.stop F2 H2 e2 S2.ex lk2', k.nx G2 O2 F2 σ2 H2 S2 (e1.trans e2) (id G2 O2 p2)⟩)
theorem ws_while {body : List Stmt} (C : Cxt M X N sc vb lb gb) (I : Nat → Sl → Own → Prop) (i0 : ∃ m, I m G O)
    (h : ∀ m G' O', I m G' O' → WT X B G' O' e fun c O2 => if c = true then WSs X B G' O2 body (E.loop fun G3 O3 => ∃ m', m' < m ∧ I m' G3 O3) else E.nx G' O2) : WS X B G O (.While e body [] pos) E := fun F σ H S D' k =>
  semS (ps_while C.own pt_sem pss_sem) (by
    obtain ⟨m0, i0⟩ := i0
    refine ⟨fun m σ H => ∃ G' O' F', Sat X.K B G' O' F' σ H ∧ Same F F' ∧ I m G' O', ⟨m0, G, O, F, S, Same.refl _, i0⟩, ?_⟩
    rintro m σ2 H2 ⟨G2, O2, F2, S2, e2, p2⟩
    refine h m G2 O2 p2 F2 σ2 H2 S2 _ fun c F3 H3 O3 S3 e3 p3 => ?_
    cases c with
    | true =>
      rw [if_pos rfl] at p3 ⊢
      refine ⟨fun σ' H' => ∃ m', m' < m ∧ ∃ G' O' F', Sat X.K B G' O' F' σ' H' ∧ Same F F' ∧ I m' G' O', fun σ' H' q => q, ?_⟩
      have ee := e2.trans e3
      exact p3 F3 σ2 H3 S3 _ ⟨fun G5 O5 F5 σ5 H5 S5 e5 ⟨m', hm, p5⟩ => ⟨m', hm, G5, O5, F5, S5, ee.trans e5, p5⟩, fun G5 O5 F5 σ5 H5 v d S5 e5 r5 p5 => k.rt G5 O5 F5 σ5 H5 v d S5 (ee.trans e5) r5 p5, fun G5 O5 F5 σ5 H5 S5 e5 p5 => k.nx G5 O5 F5 σ5 H5 S5 (ee.trans e5) p5, fun G5 O5 F5 σ5 H5 S5 e5 ⟨m', hm, p5⟩ => ⟨m', hm, G5, O5, F5, S5, ee.trans e5, p5⟩⟩
    | false =>
      rw [if_neg Bool.false_ne_true] at p3 ⊢
      exact k.nx G2 O3 F3 σ2 H3 S3 (e2.trans e3) p3)
/-! ### what is walked -/
theorem jok_list {K : PySem.W.Frag} {F : Hp} {a : Addr} {vs : List V} (hq : SqL K F a vs) (rs : Reps K F vs ds) : JOk K (Itl K a) F [] ds where
  go := fun i F2 H2 e1 e2 _ hi => ⟨vs, vs[i]'(by rw [rs.length]; exact hi), (e1.trans e2).seq hq, by simp⟩
  stop := fun F2 H2 e1 e2 _ => ⟨vs, (e1.trans e2).seq hq, by rw [rs.length]; exact Nat.le_refl _⟩
  yld := fun i F2 H2 x H3 e1 e2 _ hi y => by
    obtain ⟨rfl, y⟩ := y
    obtain ⟨d, hd, r⟩ := rs.get' (y vs ((e1.trans e2).seq hq))
    exact ⟨d, hd, .inl ⟨rfl, r.mono e1⟩⟩
theorem jok_tup {K : PySem.W.Frag} {F : Hp} {a : Addr} {vs : List V} (hq : SqT K F a vs) (rs : Reps K F vs ds) : JOk K (Itt K a) F [] ds where
  go := fun i F2 H2 e1 e2 _ hi => ⟨vs, vs[i]'(by rw [rs.length]; exact hi), sqT_mono (e1.trans e2) hq, by simp⟩
  stop := fun F2 H2 e1 e2 _ => ⟨vs, sqT_mono (e1.trans e2) hq, by rw [rs.length]; exact Nat.le_refl _⟩
  yld := fun i F2 H2 x H3 e1 e2 _ hi y => by
    obtain ⟨rfl, y⟩ := y
    obtain ⟨d, hd, r⟩ := rs.get' (y vs (sqT_mono (e1.trans e2) hq))
    exact ⟨d, hd, .inl ⟨rfl, r.mono e1⟩⟩
theorem jok_own {K : PySem.W.Frag} {F : Hp} {a : Addr} : JOk K (Itl K a) F [(a, OV.lst ds)] ds where
  go := fun i F2 H2 e1 e2 hl hi => by
    obtain ⟨vs, hv, rs⟩ := hl (a, OV.lst ds) List.mem_cons_self
    exact ⟨vs, vs[i]'(by rw [rs.length]; exact hi), SqL.of hv, by simp⟩
  stop := fun F2 H2 e1 e2 hl => by
    obtain ⟨vs, hv, rs⟩ := hl (a, OV.lst ds) List.mem_cons_self
    exact ⟨vs, SqL.of hv, by rw [rs.length]; exact Nat.le_refl _⟩
  yld := fun i F2 H2 x H3 e1 e2 hl hi y => by
    obtain ⟨vs, hv, rs⟩ := hl (a, OV.lst ds) List.mem_cons_self
    obtain ⟨rfl, y⟩ := y
    obtain ⟨d, hd, r⟩ := rs.get' (y vs (SqL.of hv))
    exact ⟨d, hd, .inl ⟨rfl, r⟩⟩
theorem jok_range {K : PySem.W.Frag} {F : Hp} {lo : Int} {n : Nat} : JOk K (Itr lo n) F [] ((List.range n).map fun i => D.int (lo + (i : Nat))) where
  go := fun i F2 H2 e1 e2 _ hi => by
    show i < n
    simpa using hi
  stop := fun F2 H2 e1 e2 _ => by
    show n ≤ _
    simp
  yld := fun i F2 H2 x H3 e1 e2 _ hi y => by
    obtain ⟨rfl, rfl⟩ := y
    have hi' : i < n := by simpa using hi
    exact ⟨.int (lo + i), by simp [hi'], .inl ⟨rfl, .int _⟩⟩
theorem wi_lst {tg iter : Expr} {Φ : List D → Own → Own → Prop} (h : WE X B G O iter fun d O1 => ∃ ds, d = .lst ds ∧ Φ ds [] O1) : WI X B G O tg iter Φ := fun F σ H S R k =>
  semI (pi_list pe_sem) (h F σ H S _ fun v F1 H1 d O1 S1 e1 r1 p1 => by
    obtain ⟨ds, rfl, p1⟩ := p1
    cases r1 with
    | lst hq rs => exact ⟨_, rfl, ⟨_, S1.ex.seq hq⟩, k _ F1 H1 ds [] O1 S1 e1 (jok_list hq rs) p1⟩)
theorem wi_tup {tg iter : Expr} {Φ : List D → Own → Own → Prop} (h : WE X B G O iter fun d O1 => ∃ ds, d = .tup ds ∧ Φ ds [] O1) : WI X B G O tg iter Φ := fun F σ H S R k =>
  semI (pi_tup pe_sem) (h F σ H S _ fun v F1 H1 d O1 S1 e1 r1 p1 => by
    obtain ⟨ds, rfl, p1⟩ := p1
    cases r1 with
    | tup hq rs => exact ⟨_, rfl, ⟨_, sqT_mono S1.ex hq⟩, k _ F1 H1 ds [] O1 S1 e1 (jok_tup hq rs) p1⟩)
theorem wi_own {tg iter : Expr} {Φ : List D → Own → Own → Prop} (h : WE X B G O iter fun d O1 => ∃ a ds, d = .obj a ∧ (a, OV.lst ds) ∈ O1 ∧ Φ ds [(a, OV.lst ds)] O1) : WI X B G O tg iter Φ := fun F σ H S R k =>
  semI (pi_list pe_sem) (h F σ H S _ fun v F1 H1 d O1 S1 e1 r1 p1 => by
    obtain ⟨a, ds, rfl, hm, p1⟩ := p1
    cases r1 with
    | obj a =>
      obtain ⟨_, vs, hv, rs⟩ := S1.own _ hm
      exact ⟨_, rfl, ⟨_, SqL.of hv⟩, k _ F1 H1 ds _ O1 S1 e1 jok_own p1⟩)
theorem wiv_lst {tg iter : Expr} (h : PEv X B G O iter (.lst ds)) : WIv X B G O tg iter ds [] := wi_lst (we_pv h ⟨ds, rfl, rfl, rfl, rfl⟩)
theorem wiv_tup {tg iter : Expr} (h : PEv X B G O iter (.tup ds)) : WIv X B G O tg iter ds [] := wi_tup (we_pv h ⟨ds, rfl, rfl, rfl, rfl⟩)
theorem wiv_own {tg iter : Expr} {a : Addr} (h : PEv X B G O iter (.obj a)) (hm : (a, OV.lst ds) ∈ O) : WIv X B G O tg iter ds [(a, OV.lst ds)] := wi_own (we_pv h ⟨a, ds, rfl, hm, rfl, rfl, rfl⟩)
theorem wi_range1 {tg : Expr} {p : Pos} {Φ : List D → Own → Own → Prop} (C : Cxt M X N sc vb lb gb) (hm : M.mg "range" = none) (hg : gb "range" = true) (h : WE X B G O a fun d O1 => ∃ j : Int, d = .int j ∧ -(2 ^ 62) ≤ j ∧ j < 2 ^ 62 ∧ Φ ((List.range j.toNat).map fun i => D.int (0 + (i : Nat))) [] O1) (sa : Plain1 a := by exact fun _ _ => star_cons rfl) :
    WI X B G O tg (.Call (.Name "range" p) [a] [] pos) Φ := fun F σ H S R k =>
  semI (pi_range1 (C.gl _ hg).1 (by rw [C.mg]; exact hm) pa_sem (sa _ _)) ((wa_cons (h.mono fun d O1 z => wa_nil (Φ := fun ds O' => ∃ j : Int, (d :: ds) = [.int j] ∧ -(2 ^ 62) ≤ j ∧ j < 2 ^ 62 ∧ Φ ((List.range j.toNat).map fun i => D.int (0 + (i : Nat))) [] O') (by
    obtain ⟨j, rfl, q⟩ := z
    exact ⟨j, rfl, q⟩)) (sa _ _) : WA X B G O [a] fun ds O' => ∃ j : Int, ds = [.int j] ∧ -(2 ^ 62) ≤ j ∧ j < 2 ^ 62 ∧ Φ ((List.range j.toNat).map fun i => D.int (0 + (i : Nat))) [] O') F σ H S _ fun vs F1 H1 ds O1 S1 e1 r1 p1 => by
    obtain ⟨j, rfl, q1, q2, q3⟩ := p1
    obtain ⟨v, rfl, rv⟩ := reps1 r1
    cases rv
    exact ⟨j, rfl, q1, q2, k _ F1 H1 _ [] O1 S1 e1 jok_range q3⟩)
end
end Dl

set_option Elab.async false
set_option linter.all false
set_option maxRecDepth 100000
set_option maxHeartbeats 2000000
/-! D4: comprehensions; enumerate, zip. -/
namespace Dl
open PySem PySem.Spec PyProof.Rows L2

/-! ### a block's context -/
def visB (sc : Scope) (x : Str) : Bool := (match sc.names.lookup x with | some .local => true | some .cell => true | some .free => true | _ => false) && !(x == ("__debug__" : Str)) && !(x == ("__classdict__" : Str))
def locB (sc : Scope) (x : Str) : Bool := match sc.names.lookup x with | some .local => true | some .cell => true | _ => false
def glB (sc : Scope) (x : Str) : Bool := (match sc.names.lookup x with | some .globalImplicit => true | _ => false) && !(x == ("__debug__" : Str))
structure Blk (M : Mach) (X : Cx) (N : List Str) (sc scope : Scope) (X' : Cx) : Prop where
  C : Cxt M X' N (relS scope sc) (visB scope) (locB scope) (glB scope)
  A : X'.A = X.A
def IsBlk (X : Cx) (scope : Scope) (X' : Cx) : Prop := ∃ (s : Shared) (H : Hp) (cl : List (Str × Addr)) (Cc : Addr) (fp : List Addr), X' = X.blk s H scope (compEnvC scope cl Cc X.env) fp
section
variable {M : Mach} {X : Cx} {N : List Str} {sc : Scope} {vb lb gb : Str → Bool}
theorem relS_keep {scope sc : Scope} {x : Str} {k : NameKind} (hk : k ≠ .free) (h : scope.names.lookup x = some k) : (relS scope sc).names.lookup x = some k := lookup_relS_keep (sc := sc) hk h
theorem relS_free {scope sc : Scope} : ∀ {names : List (Str × NameKind)} {x : Str}, names.lookup x = some .free →
    (names.map fun (n, k) => if (k == NameKind.free && sc.kind == .function && sc.names.lookup n == some .cell) then (n, NameKind.cell) else (n, k)).lookup x = some .free ∨
    (names.map fun (n, k) => if (k == NameKind.free && sc.kind == .function && sc.names.lookup n == some .cell) then (n, NameKind.cell) else (n, k)).lookup x = some .cell
  | [], _, h => by simp at h
  | (n, k) :: r, x, h => by
    have ih := @relS_free scope sc r x
    rw [List.map_cons]
    by_cases hx : x == n
    · rw [List.lookup_cons, hx] at h
      have hk : k = .free := Option.some.inj h
      subst hk
      by_cases hc : (NameKind.free == NameKind.free && sc.kind == .function && sc.names.lookup n == some .cell) = true
      · right
        simp only [hc, if_true, List.lookup_cons, hx]
      · left
        simp only [hc, Bool.false_eq_true, if_false, List.lookup_cons, hx]
    · have hx' : (x == n) = false := by simpa using hx
      rw [List.lookup_cons, hx'] at h
      by_cases hc : (k == NameKind.free && sc.kind == .function && sc.names.lookup n == some .cell) = true
      · simp only [hc, if_true, List.lookup_cons, hx']
        exact ih h
      · simp only [hc, Bool.false_eq_true, if_false, List.lookup_cons, hx']
        exact ih h
theorem blk_of {scope : Scope} {own : List (Str × Nat)} (C : Cxt M X N sc vb lb gb) (hb : blkC N sc scope own = true) {X' : Cx} (h : IsBlk X scope X') : Blk M X N sc scope X' := by
  obtain ⟨s, H, cl, Cc, fp, rfl⟩ := h
  have ok := blkOk_by hb
  have hs : (compEnvC scope cl Cc X.env).scope = relS scope sc := by
    rw [← C.hsc]
    rfl
  refine ⟨⟨C.hM, C.hN, hs, ?_, C.nd, C.calm, PassesOwn.never, C.un, fun x hx => ?_, fun x hx => ?_, fun x hx => ?_⟩, rfl⟩
  · show (compEnvC scope cl Cc X.env).scope.kind = .function
    rw [hs]
    exact ok.kind
  · unfold visB at hx
    rw [Bool.and_eq_true, Bool.and_eq_true] at hx
    obtain ⟨⟨h1, h2⟩, h3⟩ := hx
    refine ⟨?_, by simpa using h2, by simpa using h3⟩
    show Vis (compEnvC scope cl Cc X.env).scope x
    rw [hs]
    cases e : scope.names.lookup x with
    | none => rw [e] at h1; cases h1
    | some k =>
      rw [e] at h1
      cases k with
      | «local» => exact .inl (relS_keep (by decide) e)
      | cell => exact .inr (.inl (relS_keep (by decide) e))
      | free =>
        rcases relS_free (scope := scope) (sc := sc) e with z | z
        · exact .inr (.inr z)
        · exact .inr (.inl z)
      | _ => cases h1
  · unfold locB at hx
    show L2.Loc (compEnvC scope cl Cc X.env).scope x ∧ ((scope.names.lookup x == some .cell) = true ∨ (compEnvC scope cl Cc X.env).scope.names.lookup x = some .local)
    rw [hs]
    cases e : scope.names.lookup x with
    | none => rw [e] at hx; cases hx
    | some k =>
      rw [e] at hx
      cases k with
      | «local» => exact ⟨.inl (relS_keep (by decide) e), .inr (relS_keep (by decide) e)⟩
      | cell => exact ⟨.inr (relS_keep (by decide) e), .inl (by rfl)⟩
      | _ => cases hx
  · unfold glB at hx
    rw [Bool.and_eq_true] at hx
    obtain ⟨h1, h2⟩ := hx
    refine ⟨?_, by simpa using h2⟩
    show (compEnvC scope cl Cc X.env).scope.names.lookup x = some .globalImplicit
    rw [hs]
    cases e : scope.names.lookup x with
    | none => rw [e] at h1; cases h1
    | some k =>
      rw [e] at h1
      cases k with
      | globalImplicit => exact relS_keep (by decide) e
      | _ => cases h1
end
/-! ### tests -/
structure tSemTs (X : Cx) (ifs : List Expr) (σ : L2.St) (H : Hp) (Q : Bool → Hp → Prop) : Prop where
  run : ∀ (pins : List (Addr × Obj)) (s : Shared), Inv X pins σ H s →
    wpAny (model X.prog X.w) X.A (forIn ifs true fun c r => if r = true then do let ok ← isTrue c X.env (eval c X.env); pure (ForInStep.yield ok) else pure (ForInStep.yield r)) (TP X pins σ Q) X.xe s
def WF (X : Cx) (B : Bs) (G : Sl) (O : Own) (ifs : List Expr) (Φ : Bool → Own → Prop) : Prop := ∀ F σ H, Sat X.K B G O F σ H → ∀ Q : Bool → Hp → Prop, (∀ b F' H' O', Sat X.K B G O' F' σ H' → Same F F' → Φ b O' → Q b H') → tSemTs X ifs σ H Q
def wipeD (G : Sl) : List Nat → Sl
  | [] => G
  | v :: vs => (wipeD G vs).set v none
theorem wipeD_length (G : Sl) : ∀ vs : List Nat, (wipeD G vs).length = G.length
  | [] => rfl
  | v :: vs => by unfold wipeD; rw [List.length_set, wipeD_length G vs]
theorem wipeD_some {G : Sl} {i : Nat} {x : D} : ∀ {vs : List Nat}, (wipeD G vs)[i]? = some (some x) → G[i]? = some (some x) ∧ i ∉ vs
  | [], h => ⟨h, by simp⟩
  | v :: vs, h => by
    unfold wipeD at h
    by_cases hi : v = i
    · subst hi
      by_cases hv : v < (wipeD G vs).length
      · rw [List.getElem?_set_self hv] at h; cases h
      · rw [List.getElem?_eq_none (by simpa using hv)] at h; cases h
    · rw [List.getElem?_set_ne hi] at h
      obtain ⟨h1, h2⟩ := wipeD_some h
      exact ⟨h1, by simp only [List.mem_cons, not_or]; exact ⟨fun e => hi e.symm, h2⟩⟩
theorem wipe_out' {σ : L2.St} {i : Nat} : ∀ {vs : List Nat}, i ∉ vs → (wipe σ vs)[i]? = σ[i]?
  | [], _ => rfl
  | v :: vs, h => by
    simp only [List.mem_cons, not_or] at h
    unfold wipe
    rw [List.getElem?_set_ne (fun e => h.1 e.symm)]
    exact wipe_out' h.2
theorem wipe_in {σ : L2.St} {i : Nat} : ∀ {vs : List Nat}, i ∈ vs → i < σ.length → (wipe σ vs)[i]? = some none
  | v :: vs, h, hl => by
    unfold wipe
    by_cases e : v = i
    · subst e
      rw [List.getElem?_set_self (by rw [wipe_length]; exact hl)]
    · rw [List.getElem?_set_ne e]
      rcases List.mem_cons.mp h with z | z
      · exact absurd z.symm e
      · exact wipe_in z hl
theorem wipe_touch {vs : List Nat} {σ σ' : L2.St} (h : Touch (fun i => i ∈ vs) (wipe σ vs) σ') : wipe σ' vs = wipe σ vs := by
  obtain ⟨h1, h2⟩ := h
  rw [wipe_length] at h1
  apply List.ext_getElem?
  intro i
  by_cases hi : i ∈ vs
  · by_cases hl : i < σ.length
    · rw [wipe_in hi (by rw [h1]; exact hl), wipe_in hi hl]
    · rw [List.getElem?_eq_none (by rw [wipe_length, h1]; omega), List.getElem?_eq_none (by rw [wipe_length]; omega)]
  · rw [wipe_out' hi, h2 i hi]
section
variable {M : Mach} {X : Cx} {N : List Str} {sc : Scope} {vb lb gb : Str → Bool} {B : Bs} {G : Sl} {O : Own} {e a b elt : Expr} {es : List Expr} {pos : Pos} {d d1 d2 : D} {ds : List D} {E : EndsD}
theorem wf_nil {Φ : Bool → Own → Prop} (h : Φ true O) : WF X B G O [] Φ := fun F σ H S Q k => ⟨fun pins s I => pts_nil.run pins s σ H Q I (k true F H O S (Same.refl _) h)⟩
theorem wf_one {Φ : Bool → Own → Prop} (h : WT X B G O e Φ) : WF X B G O [e] Φ := fun F σ H S Q k => ⟨fun pins s I => (pts_one pt_sem).run pins s σ H Q I (h F σ H S Q k)⟩
theorem wf_pv {c : Bool} {Φ : Bool → Own → Prop} (h : PTv X B G O e c) (q : Φ c O) : WF X B G O [e] Φ := wf_one (wt_pv h q)
/-- the turn of a comprehension -/
def LcTurn (M : Mach) (X : Cx) (N : List Str) (sc scope : Scope) (G : Sl) (vs : List Nat) (O : Own) (tg : Expr) (ifs : List Expr) (elt : Expr) (d : D) (Yes : D → Own → Prop) (No : Own → Prop) : Prop :=
  ∀ X' B', Blk M X N sc scope X' → WG X' B' (wipeD G vs) O tg (fun i => i ∈ vs) d fun G2 O2 => ∀ X'', Blk M X N sc scope X'' → WF X'' B' G2 O2 ifs fun b O3 => if b = true then ∀ X''', Blk M X N sc scope X''' → WE X''' B' G2 O3 elt Yes else No O3
def Lc (M : Mach) (X : Cx) (N : List Str) (sc scope : Scope) (B : Bs) (G : Sl) (O : Own) (vs : List Nat) (tg iter : Expr) (ifs : List Expr) (elt : Expr) (Φ : List D → Own → Prop) : Prop :=
  WI X B G O tg iter fun ds lk O1 => ∃ I : Nat → List D → Own → Prop, I 0 [] O1 ∧ (∀ i acc O', i ≤ ds.length → I i acc O' → ∀ p ∈ lk, p ∈ O') ∧
    (∀ i d acc O', ds[i]? = some d → I i acc O' → LcTurn M X N sc scope G vs O' tg ifs elt d (fun y O4 => acc.length < 1000000 ∧ I (i + 1) (acc ++ [y]) O4) (fun O3 => I (i + 1) acc O3)) ∧ (∀ acc O', I ds.length acc O' → Φ acc O')
theorem lc_read {scope : Scope} {own : List (Str × Nat)} {tg iter : Expr} {ifs : List Expr} {Φ : List D → Own → Prop} (C : Cxt M X N sc vb lb gb) (hb : blkC N sc scope own = true)
    (h : Lc M X N sc scope B G O (own.map (·.2)) tg iter ifs elt Φ) {F : Hp} {σ : L2.St} {H : Hp} (S : Sat X.K B G O F σ H) {Q : VK} (k : ∀ p ds F' H' O', Sat X.K B G ((p, OV.lst ds) :: O') F' σ H' → Same F F' → Φ ds O' → Q (.ref p) H') :
    tLc (tSemI X tg iter) (fun v σ H Q => ∀ X', IsBlk X scope X' → tSemG X' tg v σ H Q) (fun σ H Q => ∀ X', IsBlk X scope X' → tSemTs X' ifs σ H Q) (fun σ H Q => ∀ X', IsBlk X scope X' → tSem X' elt σ H Q) (own.map (·.2)) σ H Q := by
  refine h F σ H S _ fun J F1 H1 ds lk O1 S1 e1 j p => ?_
  obtain ⟨I, i0, il, is, id⟩ := p
  intro Dl hD
  refine ⟨fun i m H2 => m = ds.length - i ∧ i ≤ ds.length ∧ ∃ F2 acc O2, Sat X.K B G (O2 ++ [(Dl, OV.lst acc)]) F2 σ H2 ∧ Same F1 F2 ∧ I i acc O2, ⟨_, rfl, Nat.zero_le _, F1, [], O1, ?_, Same.refl _, i0⟩, ?_⟩
  · exact (S1.allocOwn hD (ov := .lst []) ⟨[], upd_same, .nil⟩).perm (List.perm_append_singleton _ _).symm
  rintro i m H2 ⟨rfl, hi, F2, acc, O2, S2, e2, p2⟩
  have lk2 := il i acc O2 hi p2
  have lk2' : ∀ p ∈ lk, p ∈ O2 ++ [(Dl, OV.lst acc)] := fun p hp => List.mem_append_left _ (lk2 p hp)
  have lk3 : ∀ p ∈ lk, ORep X.K F2 H2 p.1 p.2 := fun p hp => (S2.own p (lk2' p hp)).2
  by_cases hlt : i < ds.length
  · refine .inr ⟨j.go i F2 H2 e2 S2.ex lk3 hlt, fun H' => ∃ F2 acc O2, Sat X.K B G (O2 ++ [(Dl, OV.lst acc)]) F2 σ H' ∧ Same F1 F2 ∧ I (i + 1) acc O2, fun H' q => ⟨ds.length - (i + 1), by omega, rfl, hlt, q⟩, fun x H3 y => ?_⟩
    obtain ⟨d, F3, hd, S3, e3, r3⟩ := j.turn S2 e2 lk2' hlt y
    have Sp : Sat X.K ⟨F3, H3, keys O2⟩ (wipeD G (own.map (·.2))) O2 F3 (wipe σ (own.map (·.2))) H3 := S3.part (by rw [wipe_length, wipeD_length]; exact S3.len) fun l dd e => by
      obtain ⟨q1, q2⟩ := wipeD_some e
      rw [wipe_out' q2]
      exact S3.slot l dd q1
    have turn := is i d acc O2 hd p2
    intro X' hX'
    have b1 := blk_of C hb hX'
    have eK : X'.K = X.K := b1.C.K.trans C.K.symm
    refine turn X' _ b1 F3 _ H3 x (by rw [eK]; exact Sp) (by rw [eK]; exact r3) _ fun G4 O4 F4 σ4 H4 S4 e4 t4 p4 => ⟨wipe_touch t4, ?_⟩
    rw [eK] at S4
    intro X'' hX''
    have b2 := blk_of C hb hX''
    have eK2 : X''.K = X.K := b2.C.K.trans C.K.symm
    refine p4 X'' b2 F4 σ4 H4 (by rw [eK2]; exact S4) _ fun c F5 H5 O5 S5 e5 p5 => ?_
    rw [eK2] at S5
    cases c with
    | false =>
      rw [if_neg Bool.false_ne_true] at p5 ⊢
      exact ⟨F5, acc, O5, S3.frame S5, (e2.trans e3).trans (e4.trans e5), p5⟩
    | true =>
      rw [if_pos rfl] at p5 ⊢
      intro X''' hX'''
      have b3 := blk_of C hb hX'''
      have eK3 : X'''.K = X.K := b3.C.K.trans C.K.symm
      refine p5 X''' b3 F5 σ4 H5 (by rw [eK3]; exact S5) _ fun v F6 H6 dd O6 S6 e6 r6 p6 => ?_
      rw [eK3] at S6 r6
      have S7 := S3.frame S6
      obtain ⟨nF, vs, hv, rs⟩ := S7.own (Dl, OV.lst acc) (List.mem_append_right _ List.mem_cons_self)
      refine ⟨vs, hv, by rw [rs.length]; exact Nat.lt_of_lt_of_le p6.1 (len_line (Nat.le_refl _)), F6, acc ++ [dd], O6, ?_, ((e2.trans e3).trans (e4.trans e5)).trans e6, p6.2⟩
      refine S7.mut (ov := .lst (acc ++ [dd])) ?_ ⟨vs ++ [v], upd_same, rs.append (.cons r6 .nil)⟩
      have app : ∀ O : Own, OSet (O ++ [(Dl, OV.lst acc)]) Dl (.lst (acc ++ [dd])) (O ++ [(Dl, OV.lst (acc ++ [dd]))]) := fun O => by
        induction O with
        | nil => exact .z
        | cons a r ih => exact .s ih
      exact app O6
  · have ei : i = ds.length := by omega
    subst ei
    exact .inl ⟨j.stop F2 H2 e2 S2.ex lk3, k Dl acc F2 H2 O2 (S2.perm (List.perm_append_singleton _ _)) (e1.trans e2) (id acc O2 p2)⟩
theorem wn_lc {scope : Scope} {own : List (Str × Nat)} {tg iter : Expr} {ifs : List Expr} {Φ : List D → Own → Prop} (C : Cxt M X N sc vb lb gb) (hb : blkC N sc scope own = true) (h : Lc M X N sc scope B G O (own.map (·.2)) tg iter ifs elt Φ)
    (hs : ∀ x, foldedSetIterable iter X.env x = pure x := by intro _; rfl) : WN X B G O (.ListComp elt [⟨tg, iter, ifs, 0⟩] scope pos) Φ := fun F σ H S Q k =>
  sem (pe_lc (own := own) C.calm (by rw [C.hN]; exact C.nd) pi_sem (by rw [C.hN, C.hsc]; exact blkOk_by hb)
    (fun s H0 Cc cl fp => ⟨fun pins s2 σ2 H2 v u Q2 I r q => (q _ ⟨s, H0, cl, Cc, fp, rfl⟩).run pins s2 u I r⟩) (fun s H0 Cc cl fp => ⟨fun pins s2 σ2 H2 Q2 I q => (q _ ⟨s, H0, cl, Cc, fp, rfl⟩).run pins s2 I⟩) (fun s H0 Cc cl fp => ⟨fun pins s2 σ2 H2 Q2 I q => (q _ ⟨s, H0, cl, Cc, fp, rfl⟩).run pins s2 I⟩) hs)
    (lc_read C hb h S k)
/-- y = [..] on one line -/
theorem ws_setLc {y : Str} {i : Nat} {f : D → Sl} {py spos : Pos} {scope : Scope} {own : List (Str × Nat)} {tg iter : Expr} {ifs : List Expr} {Φ : D → Own → Prop} (C : Cxt M X N sc vb lb gb) (hy : SetAt N G y i f) (hyl : sc.names.lookup y = some .local) (hl : (py.line == pos.line) = true)
    (hn : (scope.names.any fun (n, k) => n == y && (k == .local || k == .cell)) = false) (hb : blkC N sc scope own = true)
    (h : Lc M X N sc scope B G O (own.map (·.2)) tg iter ifs elt fun ds O' => ∀ p, E.nx (f (.obj p)) ((p, .lst ds) :: O')) (hs : ∀ x, foldedSetIterable iter X.env x = pure x := by intro _; rfl) :
    WS X B G O (.Assign [.Name y py] (.ListComp elt [⟨tg, iter, ifs, 0⟩] scope pos) spos) E := fun F σ H S D' k => by
  obtain ⟨h1, h2⟩ := hy.ix
  refine semS (ps_setLc (i := i) (own := own) (wi := tSemI X tg iter) (g := fun v σ H Q => ∀ X', IsBlk X scope X' → tSemG X' tg v σ H Q) (tt := fun σ H Q => ∀ X', IsBlk X scope X' → tSemTs X' ifs σ H Q) (te := fun σ H Q => ∀ X', IsBlk X scope X' → tSem X' elt σ H Q) C.calm (by rw [C.hN]; exact C.nd) (by rw [C.hN]; exact h1) (by rw [C.hsc]; exact hyl) (sw_true C.kf (by rw [C.hsc]; exact hyl) hl hn) pi_sem (by rw [C.hN, C.hsc]; exact blkOk_by hb)
    (fun s H0 Cc cl fp => ⟨fun pins s2 σ2 H2 v u Q2 I r q => (q _ ⟨s, H0, cl, Cc, fp, rfl⟩).run pins s2 u I r⟩) (fun s H0 Cc cl fp => ⟨fun pins s2 σ2 H2 Q2 I q => (q _ ⟨s, H0, cl, Cc, fp, rfl⟩).run pins s2 I⟩) (fun s H0 Cc cl fp => ⟨fun pins s2 σ2 H2 Q2 I q => (q _ ⟨s, H0, cl, Cc, fp, rfl⟩).run pins s2 I⟩) hs) ?_
  exact lc_read C hb h S fun p ds F' H' O' S' e' q => by
    have q' := q p
    rw [h2] at q'
    exact k.nx _ _ F' _ H' (S'.set (.obj p)) e' q'
/-- a pure turn -/
structure LcPure (M : Mach) (X : Cx) (N : List Str) (sc scope : Scope) (G : Sl) (vs : List Nat) (O : Own) (tg : Expr) (ifs : List Expr) (elt : Expr) (d : D) (c : Bool) (y : D) : Prop where
  run : ∀ X' B', Blk M X N sc scope X' → WG X' B' (wipeD G vs) O tg (fun i => i ∈ vs) d fun G2 O2 => O2 = O ∧ (∀ X'', Blk M X N sc scope X'' → WF X'' B' G2 O ifs fun b O3 => b = c ∧ O3 = O) ∧ (c = true → ∀ X''', Blk M X N sc scope X''' → PEv X''' B' G2 O elt y)
theorem LcPure.turn {scope : Scope} {vs : List Nat} {tg : Expr} {ifs : List Expr} {c : Bool} {y : D} {Yes : D → Own → Prop} {No : Own → Prop} (h : LcPure M X N sc scope G vs O tg ifs elt d c y) (q1 : c = true → Yes y O) (q2 : c = false → No O) :
    LcTurn M X N sc scope G vs O tg ifs elt d Yes No := fun X' B' b F σ H v S r Q k => h.run X' B' b F σ H v S r Q fun G' O' F' σ' H' S' e' t' p => k G' O' F' σ' H' S' e' t' fun X'' b2 => by
  obtain ⟨rfl, p1, p2⟩ := p
  intro F2 σ2 H2 S2 Q2 k2
  refine p1 X'' b2 F2 σ2 H2 S2 Q2 fun bb F3 H3 O3 S3 e3 z => k2 bb F3 H3 O3 S3 e3 ?_
  obtain ⟨rfl, rfl⟩ := z
  cases bb with
  | true =>
    rw [if_pos rfl]
    exact fun X3 b3 => we_pv (p2 rfl X3 b3) (q1 rfl)
  | false =>
    rw [if_neg Bool.false_ne_true]
    exact q2 rfl
/-- a pure comprehension over data xs, told by enc -/
theorem pn_lc {α : Type} {xs : List α} {enc : α → D} {c : α → Bool} {f : α → D} {lk : Own} {scope : Scope} {own : List (Str × Nat)} {tg iter : Expr} {ifs : List Expr} (C : Cxt M X N sc vb lb gb) (hb : blkC N sc scope own = true)
    (hi : WIv X B G O tg iter (xs.map enc) lk) (hk : ∀ p ∈ lk, p ∈ O) (hl : xs.length ≤ 1000000) (ht : ∀ x ∈ xs, LcPure M X N sc scope G (own.map (·.2)) O tg ifs elt (enc x) (c x) (f x)) (hs : ∀ x, foldedSetIterable iter X.env x = pure x := by intro _; rfl) :
    PNv X B G O (.ListComp elt [⟨tg, iter, ifs, 0⟩] scope pos) ((xs.filter c).map f) := wn_lc C hb (wi_v hi ⟨fun i acc O' => O' = O ∧ acc = ((xs.take i).filter c).map f, ⟨rfl, rfl⟩, fun i acc O' _ z p hp => by rw [z.1]; exact hk p hp, fun i d acc O' hd z => by
    obtain ⟨rfl, rfl⟩ := z
    rw [List.getElem?_map] at hd
    cases e : xs[i]? with
    | none => rw [e] at hd; cases hd
    | some x =>
      rw [e] at hd
      have hd' : enc x = d := Option.some.inj hd
      subst hd'
      have tk : xs.take (i + 1) = xs.take i ++ [x] := by rw [List.take_add_one, e] <;> rfl
      have hlen : (((xs.take i).filter c).map f).length ≤ i := by
        rw [List.length_map]
        exact Nat.le_trans (List.length_filter_le _ _) (by rw [List.length_take]; exact Nat.min_le_left _ _)
      have hi' : i < xs.length := (List.getElem?_eq_some_iff.mp e).1
      refine (ht x (List.mem_of_getElem? e)).turn (fun hc => ⟨by omega, rfl, ?_⟩) (fun hc => ⟨rfl, ?_⟩)
      · rw [tk, List.filter_append, List.map_append, List.filter_cons, if_pos hc] <;> rfl
      · rw [tk, List.filter_append, List.map_append, List.filter_cons, if_neg (by rw [hc]; decide), List.filter_nil, List.map_nil, List.append_nil], fun acc O' z => by
    obtain ⟨rfl, rfl⟩ := z
    rw [List.length_map, List.take_length]
    exact ⟨rfl, rfl⟩⟩) hs
end
end Dl

set_option Elab.async false
set_option linter.all false
set_option maxRecDepth 100000
set_option maxHeartbeats 2000000
/-! D5: defs over data: promises, calls, bodies. -/
namespace Dl
open PySem PySem.Spec PyProof.Rows L2

/-- an exception: its class, its own attributes -/
structure XD where
  cls : Value
  fs : Option (List (Str × D))
def XRep (K : PySem.W.Frag) (F : Hp) (x : XD) (cls : Value) (dd : Option Addr) : Prop := cls = x.cls ∧ match x.fs with
  | none => dd = none
  | some gs => ∃ a hs, dd = some a ∧ F a = some (.xd hs) ∧ PReps K F hs gs
abbrev Xk := XD → Sl → Own → Prop
def wD (K : PySem.W.Frag) (B : Bs) (Ψ : Xk) : WX := fun cls dd σ H => ∃ x G O F, Sat K B G O F σ H ∧ XRep K F x cls dd ∧ Ψ x G O
abbrev DSp := List D → Own → (D → Own → Prop) → (XD → Own → Prop) → Prop
def liftSp (K : PySem.W.Frag) (sp : DSp) : Sp := fun vs H Q E => ∃ F O ds Φ Ψ, Sat K ⟨F, H, keys O⟩ [] O F [] H ∧ Reps K F vs ds ∧ sp ds O Φ Ψ ∧
  (∀ v F' H' d O' G σ, Sat K ⟨F, H, keys O⟩ G O' F' σ H' → Rep K F' v d → Φ d O' → Q v H') ∧ (∀ cls dd F' H' x O' G σ, Sat K ⟨F, H, keys O⟩ G O' F' σ H' → XRep K F' x cls dd → Ψ x O' → E cls dd H')

/-- the def x of the module, called with its parameters by place -/
def GFn (M : Mach) (x : Str) (k : Nat) (sp : DSp) : Prop := ∃ (f : Addr) (fd : FuncData) (ps : List Str), M.mg x = some (.ref f) ∧ PySem.W.keepIn M.K (.ref f) = true ∧ Binds M.K fd ps [] ∧ FnOk M.P M.w M.K M.mg M.base (L2N.CX M.P M.w) k f fd ps (liftSp M.K sp)
/-- .. with the keywords ks behind -/
def kwJoin {α β : Type} (ks : List β) (us ws : List α) : List α := if ws.length = ks.length then us ++ ws else []
def GFnK (M : Mach) (x : Str) (ks : List Str) (k : Nat) (sp : DSp) : Prop := ∃ (f : Addr) (fd : FuncData) (ps : List Str), M.mg x = some (.ref f) ∧ PySem.W.keepIn M.K (.ref f) = true ∧ KBinds M.K fd ps ks (kwJoin ks) (kwJoin ks) ∧ FnOk M.P M.w M.K M.mg M.base (L2N.CX M.P M.w) k f fd ps (liftSp M.K sp)
theorem GFn.mono {M : Mach} {x : Str} {j k : Nat} {sp : DSp} (h : GFn M x j sp) (l : j ≤ k) : GFn M x k sp := by
  obtain ⟨f, fd, ps, h1, h2, h3, h4⟩ := h
  exact ⟨f, fd, ps, h1, h2, h3, h4.mono l⟩

section
variable {X : Cx} {CX : CXT} {k : Nat} {f : Addr} {fd : FuncData} {ps ks : List Str} {sp : Sp} {E : L2.St → XK} {x : Str} {p pos : Pos} {e : Expr} {es : List Expr} {kws : List Keyword} {t tk : TA} {g : List Value → List Value → List Value} {gV : List V → List V → List V}
def tCallKD (sp : Sp) (gV : List V → List V → List V) (E : L2.St → XK) (t tk : TA) : TE := fun σ H Q => t σ H fun vs H1 => tk σ H1 fun zs H2 => sp (gV vs zs) H2 Q (E σ)
theorem run_fnKD {pins : List (Addr × Obj)} {σ : L2.St} {H : Hp} {s : Shared} {Q : VK} {us ws : List Value} {vs zs : List V} (F : FnOk X.prog X.w X.K X.mg X.base CX k f fd ps sp) (hr : Room k X.A) (hb : KBinds X.K fd ps ks g gV) (hx : PassesAt CX X σ (E σ))
    (I : Inv X pins σ H s) (r : Vals vs us) (rz : Vals zs ws) (h : sp (gV vs zs) H Q (E σ)) : wpAny (model X.prog X.w) X.A (call (.ref f) us (ks.zip ws)) (EP X pins σ Q) X.xe s := by
  have r2 := hb.rel r rz
  have hl : (g us ws).length = ps.length := by rw [← r2.length]; exact F.len _ _ _ _ h
  refine wpAny_call (codeAny_mono (F.run X.A X.stack s H ⟨us, ks.zip ws⟩ (g us ws) (gV vs zs) Q (E σ) hr I.env0 (hb.to s us ws I.kIn hl) r2 h) fun r s' hq => ?_)
  cases r with
  | error e => exact hx pins H s e s' I hq
  | ok fl =>
    cases fl with
    | ret u => exact I.after hq
    | next => exact False.elim hq
    | brk => exact False.elim hq
    | cont => exact False.elim hq
theorem pe_callKD (F : FnOk X.prog X.w X.K X.mg X.base CX k f fd ps sp) (hr : Room k X.A) (hg : Gl X x) (hm : X.mg x = some (.ref f)) (hk : PySem.W.keepIn X.K (.ref f) = true) (hb : KBinds X.K fd ps ks g gV) (hx : ∀ σ, PassesAt CX X σ (E σ))
    (ha : PA X (e :: es) t) (hkw : PK X kws tk) (hall : (backToKw pos (keywordEach kws X.env)).all (·.1.isSome) = true := by rfl) (hks : (backToKw pos (keywordEach kws X.env)).filterMap (·.1) = ks := by rfl)
    (hdb : (x == ("__debug__" : Str)) = false := by decide) (he : starEach (e :: es) X.env = (false, eval e X.env) :: starEach es X.env := by exact star_cons rfl)
    (hpl : ((backTo pos (starEach (e :: es) X.env)).any (·.1) || (backToKw pos (keywordEach kws X.env)).any (·.1.isNone)) = false := by rfl) :
    PE X (.Call (.Name x p) (e :: es) kws pos) (tCallKD sp gV E t tk) := by
  refine ⟨fun pins s σ H Q I h => ?_⟩
  refine wpAny_Call_Name_kw (ld_glob I hg hm ?_ hdb)
  refine PySem.W.callWith_KW (h₀ := X.base) I.ok.mod.kin hk hall (thn (ha.run pos pins s σ H _ I h) fun us s1 ⟨vs, H1, I1, r, q⟩ => ?_) hpl he
  refine thn (hkw.run pos pins s1 σ H1 _ I1 q) fun ws s2 ⟨zs, H2, I2, rz, q2⟩ => ⟨I2.kIn, ?_⟩
  rw [hks]
  exact run_fnKD F hr hb (hx σ) I2 r rz q2
end

section
variable {M : Mach} {X : Cx} {N : List Str} {sc : Scope} {vb lb gb : Str → Bool} {B : Bs} {G : Sl} {O : Own} {e a b : Expr} {es : List Expr} {pos p : Pos} {d : D} {ds : List D} {x : Str} {k : Nat} {sp : DSp} {Ψ : Xk}
/-- what a call asks behind its arguments -/
def DPost (sp : DSp) (G : Sl) (Φ : D → Own → Prop) (Ψ : Xk) (ds : List D) (O1 : Own) : Prop := ∃ Oa Ob, O1.Perm (Oa ++ Ob) ∧ sp ds Oa (fun d O' => Φ d (O' ++ Ob)) fun y O' => Ψ y G (O' ++ Ob)
theorem post_run {Φ : D → Own → Prop} {F1 H1 : Hp} {σ : L2.St} {O1 : Own} {vs : List V} {Q : VK} {K : PySem.W.Frag} (S1 : Sat K B G O1 F1 σ H1) (r1 : Reps K F1 vs ds) (p1 : DPost sp G Φ Ψ ds O1)
    (k : ∀ v F' H' d O', Sat K B G O' F' σ H' → Same F1 F' → Rep K F' v d → Φ d O' → Q v H') : liftSp K sp vs H1 Q (fun cls dd H => wD K B Ψ cls dd σ H) := by
  obtain ⟨Oa, Ob, hp, h⟩ := p1
  have S2 := S1.perm hp
  refine ⟨F1, Oa, ds, _, _, S2.part (Gs := []) (τ := []) rfl (fun i d e => by simp at e), r1, h, fun v F' H' d O' G' σ' S' r' q' => ?_, fun cls dd F' H' y O' G' σ' S' xr q' => ?_⟩
  · exact k v F' H' d (O' ++ Ob) (S2.frame S') S'.bF r' q'
  · exact ⟨y, G, O' ++ Ob, F', S2.frame S', xr, q'⟩
theorem we_call {Φ : D → Own → Prop} (C : Cxt M X N sc vb lb gb) (f : GFn M x k sp) (hr : Room k X.A) (tk : L2N.Takes X (wD X.K B Ψ)) (hg : gb x = true) (h : WA X B G O (e :: es) (DPost sp G Φ Ψ))
    (he : starEach (e :: es) X.env = (false, eval e X.env) :: starEach es X.env := by exact star_cons rfl) (hpl : (backTo pos (starEach es X.env)).any (·.1) = false := by rfl) : WE X B G O (.Call (.Name x p) (e :: es) [] pos) Φ := fun F σ H S Q kk => by
  obtain rfl := C.hM
  obtain ⟨f, fd, ps, h1, h2, h3, h4⟩ := f
  refine sem (pe_callS (E := fun σ cls dd H => wD X.K B Ψ cls dd σ H) h4 hr (C.gl x hg).1 h1 h2 h3 (fun σ => L2N.passAt tk σ) pa_sem (C.gl x hg).2 he hpl) ?_
  refine h F σ H S _ fun vs F1 H1 ds O1 S1 e1 r1 p1 => ?_
  exact post_run S1 r1 p1 fun v F' H' d O' S' e' r' q' => kk v F' H' d O' S' (e1.trans e') r' q'
theorem we_call0 {Φ : D → Own → Prop} (C : Cxt M X N sc vb lb gb) (f : GFn M x k sp) (hr : Room k X.A) (tk : L2N.Takes X (wD X.K B Ψ)) (hg : gb x = true) (h : DPost sp G Φ Ψ [] O) : WE X B G O (.Call (.Name x p) [] [] pos) Φ := fun F σ H S Q kk => by
  obtain rfl := C.hM
  obtain ⟨f, fd, ps, h1, h2, h3, h4⟩ := f
  refine ⟨fun pins s I => ?_⟩
  refine wpAny_Call_Name_kw (ld_glob I (C.gl x hg).1 h1 ?_ (C.gl x hg).2)
  exact PySem.W.callWith_K0 I.kIn h2 (run_fnS (us := []) (E := fun σ cls dd H => wD X.K B Ψ cls dd σ H) h4 hr h3 (L2N.passAt tk σ) I .nil (post_run S .nil h fun v F' H' d O' S' e' r' q' => kk v F' H' d O' S' e' r' q'))
/-- keywords -/
structure tSemK (X : Cx) (kws : List Keyword) (σ : L2.St) (H : Hp) (Q : List V → Hp → Prop) : Prop where
  run : ∀ (pos : Pos) (pins : List (Addr × Obj)) (s : Shared), Inv X pins σ H s → wpAny (model X.prog X.w) X.A (evalAll ((backToKw pos (keywordEach kws X.env)).map (·.2))) (AP X pins σ Q) X.xe s
theorem pk_sem {kws : List Keyword} : PK X kws (tSemK X kws) := ⟨fun pos pins s _ _ _ I h => h.run pos pins s I⟩
def WK (X : Cx) (B : Bs) (G : Sl) (O : Own) (kws : List Keyword) (Φ : List D → Own → Prop) : Prop := ∀ F σ H, Sat X.K B G O F σ H → ∀ Q : List V → Hp → Prop, (∀ vs F' H' ds O', Sat X.K B G O' F' σ H' → Same F F' → Reps X.K F' vs ds → Φ ds O' → Q vs H') → tSemK X kws σ H Q
theorem wk_nil {Φ : List D → Own → Prop} (q : Φ [] O) : WK X B G O [] Φ := fun F σ H S Q k => ⟨fun pos pins s I => pk_nil.run pos pins s σ H Q I (k [] F H [] O S (Same.refl _) .nil q)⟩
theorem wk_cons {nm : Option Str} {kpos : Pos} {kws : List Keyword} {Φ : List D → Own → Prop} (h : WE X B G O e fun d O1 => WK X B G O1 kws fun ds O2 => Φ (d :: ds) O2) : WK X B G O (⟨nm, e, kpos⟩ :: kws) Φ := fun F σ H S Q k => ⟨fun pos pins s I =>
  (pk_cons pe_sem pk_sem).run pos pins s σ H Q I (h F σ H S _ fun v F1 H1 d O1 S1 e1 r1 p1 => p1 F1 σ H1 S1 _ fun vs F2 H2 ds O2 S2 e2 r2 p2 => k _ F2 H2 _ O2 S2 (e1.trans e2) (.cons (r1.mono e2) r2) p2)⟩
theorem we_callK {ks : List Str} {kws : List Keyword} {Φ : D → Own → Prop} (C : Cxt M X N sc vb lb gb) (f : GFnK M x ks k sp) (hr : Room k X.A) (tk : L2N.Takes X (wD X.K B Ψ)) (hg : gb x = true) (h : WA X B G O (e :: es) fun ds O1 => WK X B G O1 kws fun zs O2 => zs.length = ks.length ∧ DPost sp G Φ Ψ (ds ++ zs) O2)
    (hall : (backToKw pos (keywordEach kws X.env)).all (·.1.isSome) = true := by rfl) (hks : (backToKw pos (keywordEach kws X.env)).filterMap (·.1) = ks := by rfl)
    (he : starEach (e :: es) X.env = (false, eval e X.env) :: starEach es X.env := by exact star_cons rfl) (hpl : ((backTo pos (starEach (e :: es) X.env)).any (·.1) || (backToKw pos (keywordEach kws X.env)).any (·.1.isNone)) = false := by rfl) : WE X B G O (.Call (.Name x p) (e :: es) kws pos) Φ := fun F σ H S Q kk => by
  obtain rfl := C.hM
  obtain ⟨f, fd, ps, h1, h2, h3, h4⟩ := f
  refine sem (pe_callKD (E := fun σ cls dd H => wD X.K B Ψ cls dd σ H) h4 hr (C.gl x hg).1 h1 h2 h3 (fun σ => L2N.passAt tk σ) pa_sem pk_sem hall hks (C.gl x hg).2 he hpl) ?_
  refine h F σ H S _ fun vs F1 H1 ds O1 S1 e1 r1 p1 => ?_
  refine p1 F1 σ H1 S1 _ fun zs F2 H2 es O2 S2 e2 r2 ⟨pl, p2⟩ => ?_
  have ej : kwJoin ks vs zs = vs ++ zs := if_pos (by rw [r2.length, pl])
  rw [ej]
  exact post_run S2 ((r1.mono e2).append r2) p2 fun v F' H' d O' S' e' r' q' => kk v F' H' d O' S' ((e1.trans e2).trans e') r' q'
/-- a call in which nothing is raised -/
theorem takes_no : L2N.Takes X (wD X.K B fun _ _ _ => False) := fun u s' ⟨a, Bb, sI, pins, σ, H, cls, d, e, I, nb, up, sky, na, os, ag, w⟩ => by
  obtain ⟨_, _, _, _, _, _, w⟩ := w
  exact w.elim
end

/-! ### a def by its body -/
def startD (N : List Str) (ds : List D) : Sl := ds.map some ++ List.replicate (N.length - ds.length) none
def defB (sc : Scope) (N gl : List Str) : Bool := (N.all fun x => visB sc x && locB sc x) && gl.all fun x => glB sc x
theorem vis_of {sc : Scope} {x : Str} (h : visB sc x = true) : Vis sc x ∧ (x == ("__debug__" : Str)) = false ∧ (x == ("__classdict__" : Str)) = false := by
  unfold visB at h
  rw [Bool.and_eq_true, Bool.and_eq_true] at h
  obtain ⟨⟨h1, h2⟩, h3⟩ := h
  refine ⟨?_, by simpa using h2, by simpa using h3⟩
  split at h1
  · exact .inl (by assumption)
  · exact .inr (.inl (by assumption))
  · exact .inr (.inr (by assumption))
  · cases h1
theorem loc_of {sc : Scope} {x : Str} (h : locB sc x = true) : L2.Loc sc x := by
  unfold locB at h
  split at h
  · exact .inl (by assumption)
  · exact .inr (by assumption)
  · cases h
theorem gl_of {sc : Scope} {x : Str} (h : glB sc x = true) : sc.names.lookup x = some .globalImplicit ∧ (x == ("__debug__" : Str)) = false := by
  unfold glB at h
  rw [Bool.and_eq_true] at h
  obtain ⟨h1, h2⟩ := h
  refine ⟨?_, by simpa using h2⟩
  split at h1
  · assumption
  · cases h1
structure Frm (X : Cx) : Prop where
  st : X.stack = X.env :: X.outer
  fr : X.env.frame = some X.env.locals
/-- what a def's body is walked with -/
structure Body (M : Mach) (X : Cx) (B : Bs) (N vn gl : List Str) (sc : Scope) (k : Nat) (Ψ : XD → Own → Prop) : Prop where
  C : Cxt M X N sc (fun x => vn.contains x) (fun x => vn.contains x) (fun x => gl.contains x)
  r : Room k X.A
  tk : L2N.Takes X (wD X.K B fun x _ O => Ψ x O)
  fr : Frm X
theorem contains_mem {l : List Str} {x : Str} (h : l.contains x = true) : x ∈ l := List.contains_iff_mem.mp h
theorem fun_okN {P : Program} {w : World} {K : PySem.W.Frag} {mg : Str → Option Value} {base : Heap} {x qual : Str} {st : Stmt} {f : Addr} {fd : FuncData} {N ps : List Str} {k : Nat} {sp : Sp} {CX : CXT} (F : Fun K x qual st f fd) (S : FnScope N ps (defScope st)) (len : ∀ vs H Q E, sp vs H Q E → vs.length = ps.length)
    (hbody : ∀ (cdv : Value), fd.code = cdv → ∀ (A : Around) (outer : List Env) (s : Shared) (H : Hp) (vs : List V) (Q : VK) (E : XK), Room k (A.deeper (envOfC qual (defScope st) s.heap.objs.size f cdv)) → sp vs H Q E →
      ∃ t, PSs (cxOf CX P w K mg base N qual (defScope st) f cdv A outer s H E) (defBody st) t ∧ t { nx := fun _ H' => Q .non H', rt := Q } (L2.start N vs) H) : FnOk P w K mg base CX (k + 1) f fd ps sp := by
  obtain ⟨oc, od, kV, doc, pm, an, cdv, ct, osl, rfl, lk, hcd⟩ := F.ex
  exact fn_of lk hcd S len fun A outer s H vs Q E hr hsp => hbody cdv rfl A outer s H vs Q E hr hsp
/-- .. told of the frame too -/
theorem fn_bodyC {M : Mach} {x qual : Str} {st : Stmt} {f : Addr} {fd : FuncData} {N vn ps gl : List Str} {k : Nat} {sp : DSp} (F : Fun M.K x qual st f fd) (S : FnScope N ps (defScope st)) (hb : defB (defScope st) vn gl = true) (len : ∀ ds O Φ Ψ, sp ds O Φ Ψ → ds.length = ps.length)
    (body : ∀ (X : Cx) (B : Bs) (ds : List D) (O : Own) (Φ : D → Own → Prop) (Ψ : XD → Own → Prop), Body M X B N vn gl (defScope st) k Ψ → (∃ L, X.env = envOfC qual (defScope st) L f fd.code) → sp ds O Φ Ψ → WSs X B (startD N ds) O (defBody st) (EndsD.fn Φ)) :
    FnOk M.P M.w M.K M.mg M.base (L2N.CX M.P M.w) (k + 1) f fd ps (liftSp M.K sp) := by
  unfold defB at hb
  rw [Bool.and_eq_true, List.all_eq_true, List.all_eq_true] at hb
  obtain ⟨hb1, hb2⟩ := hb
  refine fun_okN F S (fun vs H Q E h => ?_) (fun cdv hcd A outer s H vs Q E hr h => ?_)
  · obtain ⟨F, O, ds, Φ, Ψ, _, r, h, _⟩ := h
    rw [r.length]
    exact len _ _ _ _ h
  · obtain ⟨F0, O, ds, Φ, Ψ, S0, rs, hs, q1, q2⟩ := h
    have hlen : vs.length = ds.length := rs.length
    have bd : Body M (cxOf (L2N.CX M.P M.w) M.P M.w M.K M.mg M.base N qual (defScope st) f cdv A outer s H E) ⟨F0, H, keys O⟩ N vn gl (defScope st) k Ψ := by
      refine ⟨⟨rfl, rfl, rfl, S.kind, S.nd, rfl, passes_of rfl, hr.units, fun y hy => ?_, fun y hy => ?_, fun y hy => ?_⟩, hr, ?_, rfl, rfl⟩
      · have z := hb1 y (contains_mem hy)
        rw [Bool.and_eq_true] at z
        exact vis_of z.1
      · have z := hb1 y (contains_mem hy)
        rw [Bool.and_eq_true] at z
        exact ⟨loc_of z.2, .inl rfl⟩
      · exact gl_of (hb2 y (contains_mem hy))
      · refine (L2N.takes_of rfl rfl rfl rfl).imp fun cls dd σ H' w => ?_
        obtain ⟨y, G, O', F', S', xr, w⟩ := w
        exact q2 cls dd F' H' y O' G σ S' xr w
    refine ⟨_, pss_sem, ?_⟩
    refine body _ _ ds O Φ Ψ bd ⟨s.heap.objs.size, by rw [hcd]; rfl⟩ hs F0 (L2.start N vs) H ⟨?_, fun i d e => ?_, S0.ex, S0.nd, S0.own, S0.bF, S0.bH⟩ _ ⟨fun G' O' F' σ' H' S' e' p => q1 .non F' H' .non O' G' σ' S' .non p, fun G' O' F' σ' H' v d S' e' r' p => q1 v F' H' d O' G' σ' S' r' p, fun _ _ _ _ _ _ _ p => p.elim, fun _ _ _ _ _ _ _ p => p.elim⟩
    · unfold L2.start startD
      rw [List.length_append, List.length_append, List.length_map, List.length_map, List.length_replicate, List.length_replicate, hlen]
    · unfold startD at e
      unfold L2.start
      by_cases hi : i < ds.length
      · rw [List.getElem?_append_left (by rw [List.length_map]; exact hi), List.getElem?_map] at e
        cases e2 : ds[i]? with
        | none => rw [e2] at e; cases e
        | some d' =>
          rw [e2] at e
          cases e
          obtain ⟨v, h1, h2⟩ := rs.get e2
          refine ⟨v, ?_, h2⟩
          rw [List.getElem?_append_left (by rw [List.length_map, hlen]; exact hi), List.getElem?_map, h1] <;> rfl
      · rw [List.getElem?_append_right (by rw [List.length_map]; omega), List.getElem?_replicate] at e
        split at e <;> cases e
theorem fn_body {M : Mach} {x qual : Str} {st : Stmt} {f : Addr} {fd : FuncData} {N vn ps gl : List Str} {k : Nat} {sp : DSp} (F : Fun M.K x qual st f fd) (S : FnScope N ps (defScope st)) (hb : defB (defScope st) vn gl = true) (len : ∀ ds O Φ Ψ, sp ds O Φ Ψ → ds.length = ps.length)
    (body : ∀ (X : Cx) (B : Bs) (ds : List D) (O : Own) (Φ : D → Own → Prop) (Ψ : XD → Own → Prop), Body M X B N vn gl (defScope st) k Ψ → sp ds O Φ Ψ → WSs X B (startD N ds) O (defBody st) (EndsD.fn Φ)) :
    FnOk M.P M.w M.K M.mg M.base (L2N.CX M.P M.w) (k + 1) f fd ps (liftSp M.K sp) := fn_bodyC F S hb len fun X B ds O Φ Ψ bd _ h => body X B ds O Φ Ψ bd h
theorem kbinds_mk {K : PySem.W.Frag} {fd : FuncData} {ps ks : List Str} (n : Nat) (hn : ps.length = n + ks.length) (h0 : 0 < ps.length) (h : ∀ us ws : List Value, us.length = n → ws.length = ks.length → bindArgs fd ⟨us, ks.zip ws⟩ = pure (ps.zip (us ++ ws))) : KBinds K fd ps ks (kwJoin ks) (kwJoin ks) where
  to := fun s us ws _ hl => by
    unfold kwJoin at hl ⊢
    by_cases c : ws.length = ks.length
    · rw [if_pos c, List.length_append] at hl
      rw [if_pos c]
      exact .of_eq (h us ws (by omega) c)
    · rw [if_neg c, List.length_nil] at hl
      omega
  rel := fun {vs us zs ws} r1 r2 => by
    unfold kwJoin
    rw [r2.length]
    split
    · exact r1.append r2
    · exact .nil
theorem gfnK_mk {M : Mach} {x qual : Str} {st : Stmt} {f : Addr} {fd : FuncData} {ps ks : List Str} {k : Nat} {sp : DSp} (hm : M.mg x = some (.ref f)) (F : Fun M.K x qual st f fd) (b : KBinds M.K fd ps ks (kwJoin ks) (kwJoin ks)) (h : FnOk M.P M.w M.K M.mg M.base (L2N.CX M.P M.w) k f fd ps (liftSp M.K sp)) : GFnK M x ks k sp := ⟨f, fd, ps, hm, F.kp, b, h⟩
theorem GFnK.mono {M : Mach} {x : Str} {ks : List Str} {j k : Nat} {sp : DSp} (h : GFnK M x ks j sp) (l : j ≤ k) : GFnK M x ks k sp := by
  obtain ⟨f, fd, ps, h1, h2, h3, h4⟩ := h
  exact ⟨f, fd, ps, h1, h2, h3, h4.mono l⟩
theorem gfn_mk {M : Mach} {x qual : Str} {st : Stmt} {f : Addr} {fd : FuncData} {ps : List Str} {k : Nat} {sp : DSp} (hm : M.mg x = some (.ref f)) (F : Fun M.K x qual st f fd) (b : Binds M.K fd ps []) (h : FnOk M.P M.w M.K M.mg M.base (L2N.CX M.P M.w) k f fd ps (liftSp M.K sp)) : GFn M x k sp := ⟨f, fd, ps, hm, F.kp, b, h⟩
end Dl

set_option Elab.async false
set_option linter.all false
set_option maxRecDepth 100000
set_option maxHeartbeats 2000000
/-! D6: enumerate of tuples and lists, zip; list methods; stores; == at any depth. -/
namespace Dl
open PySem PySem.Spec PyProof.Rows L2

/-! ### enumerate(v) over what begins -/
set_option maxHeartbeats 4000000 in
theorem meets_enum1 {v : Value} {o : Obj} {H : Heap → Prop} (B : Begins v o H) :
    Meets (Builtin.«enumerate.__new__» ⟨[.type "enumerate", v], []⟩) (fun _ R s => H s.heap ∧
      R (.ok (.ret (.ref (s.heap.push o).objs.size))) { s with heap := (s.heap.push o).push { cls := .type "enumerate", data := .fields #[.none, .bool false, .ref s.heap.objs.size, rawInt 0, .none, .none] } }) :=
  .of_wp fun prog w A R s h => by
    obtain ⟨hp, g, d, tk, os⟩ := s; obtain ⟨h1, h⟩ := h
    have hsub := sub_enumerate
    have q1 : ∀ {A' : Around} {E : Value → Shared → Prop} {Q : Value → Shared → Prop}, Q (.ref hp.objs.size) ⟨hp.push o, g, d, tk, os⟩ → wpAny (model prog w) A' (pyIter v) Q E ⟨hp, g, d, tk, os⟩ :=
      fun q => B.iter prog w _ _ ⟨hp, g, d, tk, os⟩ _ h1 q
    wp_walk using q1
    refine wpAny_stack_any fun st => wpAny_pure ?_
    split
    · rename_i c _ _ _ _ _
      cases (c == Value.type "enumerate")
      · wp_walk using q1
        exact ⟨_, rfl, h⟩
      · wp_walk using q1
        exact ⟨_, rfl, h⟩
    · wp_walk using q1
      exact ⟨_, rfl, h⟩
theorem call_enum1 {prog : Program} {w : World} {A : Around} {E : Value → Shared → Prop} {s : Shared} {v : Value} {o : Obj} {H : Heap → Prop} {Q : Value → Shared → Prop} (B : Begins v o H) (h1 : H s.heap)
    (h : ∀ h', IsEnum h' (s.heap.objs.size + 1) s.heap.objs.size 0 .none → h'.get? s.heap.objs.size = some o → h'.objs.size = s.heap.objs.size + 2 →
      (∀ b o, s.heap.get? b = some o → h'.get? b = some o) → Q (.ref (s.heap.objs.size + 1)) { s with heap := h' }) :
    wpAny (model prog w) A (call (.type "enumerate") [v]) Q E s := by
  refine callType_new F.called_enumerate (by decide) (F.typeCall_enumerate_1 _) (F.newCall_enumerate_1 _) (fun obj => F.args_object_init_2 obj _) F.entry_enumerate_new (meets_enum1 B) ⟨h1, ?_⟩
  have hz : (s.heap.push o).objs.size = s.heap.objs.size + 1 := Heap.size_push ..
  show _ ∧ _
  rw [hz]
  have he : IsEnum ((s.heap.push o).push { cls := .type "enumerate", data := .fields #[.none, .bool false, .ref s.heap.objs.size, rawInt 0, .none, .none] }) (s.heap.objs.size + 1) s.heap.objs.size 0 .none := by
    have := Heap.get?_push_size (s.heap.push o) (o := { cls := .type "enumerate", data := .fields #[.none, .bool false, .ref s.heap.objs.size, rawInt 0, .none, .none] }) rfl
    rw [hz] at this; exact this
  refine ⟨⟨_, he, rfl⟩, h _ he (Heap.get?_push_of_some _ (Heap.get?_push_size _ B.free)) (by rw [Heap.size_push, hz]) fun b o x => Heap.get?_push_of_some _ (Heap.get?_push_of_some _ x)⟩
theorem wpAny_pyNext_enum_endT {prog : Program} {w : World} {A : Around} {E : Value → Shared → Prop} {s : Shared} {e it l : Addr} {i : Nat} {items : Array Value} {old : Value} {Q : Option Value → Shared → Prop} (hh : A.handled = none)
    (he : IsEnum s.heap e it i old) (hit : s.heap.IsTupleIter it l i) (hl : s.heap.IsTuple l items) (hx : items[i]? = none)
    (hQ : ∀ h', Heap.ExtBut it s.heap h' → Q none { s with heap := h' }) : wpAny (model prog w) A (pyNext (.ref e)) Q E s := by
  have hT : s.TypeIs (.ref e) "enumerate" := ⟨_, he, rfl⟩
  unfold pyNext
  refine wpAny_bind (wpAny_attempt (wpAny_callSpecial?_slot (name := Str.ofString "__next__") hT F.slot_enumerate_next
    (wpAny_call_entry F.slot_enumerate_next hT F.entry_enumerate_next ?_ (F.args_enumerate_next_1 _))))
  show wpAny _ _ (field (.ref e) 2 >>= _) _ _ _
  refine wpAny_bind (wpAny_field he rfl (x := .ref it) rfl ?_)
  refine wpAny_bind (wpAny_nextOf_tuple_end hh hit hl hx fun h' x he' hx' => ?_)
  obtain ⟨o, ho, hc⟩ := hx'
  refine wpAny_bind (wpAny_isInstance (T := "StopIteration") (b := true) ⟨o, ho, hc⟩ isSubtype_stop ?_)
  exact wpAny_pure (hQ _ he')
/-- a tuple's items with their places, in new pairs -/
def IteT (K : PySem.W.Frag) (a : Addr) : It :=
  ⟨fun i H => ∃ (xs : List V) (x : V), SqT K H a xs ∧ xs[i]? = some x, fun i H v H' => ∃ T x, v = .ref T ∧ H T = none ∧ H' = upd H T (.tup [.int (i : Nat), x]) ∧ ∀ xs, SqT K H a xs → xs[i]? = some x, fun i H => ∃ xs : List V, SqT K H a xs ∧ xs.length ≤ i⟩
theorem turn_enumT {P : Program} {w : World} {K : PySem.W.Frag} {elts : List Expr} {kk : Nat} {tpos : Pos} (a e it : Addr) :
    Turn P w K (.Tuple elts kk tpos) (IteT K a) [e, it] e (fun i h => (∃ old, IsEnum h e it ((i : Nat) : Int) old) ∧ h.IsTupleIter it a i ∧ e ≠ it ∧ a ≠ it ∧ e ≠ a) where
  mem := by simp
  obj := fun i h st b hb => by
    obtain ⟨⟨old, he⟩, ⟨o, ho, hc, hd⟩, _⟩ := st
    have e' : b = e ∨ b = it := by simpa using hb
    rcases e' with z | z
    · rw [z]; exact ⟨_, he, fun v q => nomatch q⟩
    · rw [z]; exact ⟨o, ho, fun v q => by rw [hd] at q; cases q⟩
  keep := fun i h h' st k => let ⟨⟨old, he⟩, hi, hne⟩ := st; ⟨⟨old, k e (by simp) _ he⟩, hi.at fun o q => k it (by simp) o q, hne⟩
  item := by
    intro X hP hw hK hc i pins s σ H E I hf st hg
    subst hP hw hK
    obtain ⟨⟨old, he⟩, hit, hne, hai, hea⟩ := st
    obtain ⟨xs, x, hq, hx⟩ := hg
    obtain ⟨its, rv, p, hz⟩ := I.tuple hq
    obtain ⟨u, hu, ru⟩ := rv.get hx
    have hel : e < s.heap.objs.size := Heap.lt_size he
    have hil : it < s.heap.objs.size := by obtain ⟨_, q, _⟩ := hit; exact Heap.lt_size q
    have hlen : i < its.toArray.size := by
      have := (List.getElem?_eq_some_iff.mp hu).1
      simpa using this
    have Dd := Draws.tuple (prog := X.prog) (w := X.w) (A := X.A.in1) (I.ok.hd hc) it a hai its.toArray
    refine wpAny_pyNext_enum_itemD Dd he ⟨hit, show s.heap.IsTuple a its.toArray from p⟩ hlen hne (by simp; exact ⟨hne, hea⟩) fun y h' tk hP ho hit' hT hsz hk => ?_
    have hy : y = u := by
      have z : its.toArray[i]? = some u := by simpa using hu
      rw [z] at hP
      exact (Option.some.inj hP).symm
    subst hy
    refine ⟨_, rfl, wpAny_letOwnedTupleGo_enum (s := { s with heap := h', toks := tk + 1 }) ho fun h'' he' sb => ?_⟩
    have hT2 : h''.get? s.heap.objs.size = some { cls := .type "tuple", data := .seq #[.int i tk, y] } := (sb.2 _ (Nat.ne_of_gt hel)).trans hT
    have new : ObjOk X.prog X.w (upd H s.heap.objs.size (.tup [.int (i : Nat), x])) h'' s.heap.objs.size (.tup [.int (i : Nat), x]) :=
      ⟨by show 2 ≤ sizeLine; decide, [.int i tk, y], .cons ⟨_, rfl⟩ (.cons ru .nil), ⟨_, hT2, rfl, _, rfl⟩⟩
    have I1 : Inv X pins σ (upd H s.heap.objs.size (.tup [.int (i : Nat), x])) { s with heap := h'', toks := tk + 1 } :=
      I.turnedNew (ch := [e, it]) (fun b ob hb q => (sb.2 b (fun z => hb (by simp [z]))).trans (hk b ob (fun z => hb (by simp [z])) (fun z => hb (by simp [z])) q)) hf (Nat.le_refl _) new
    refine ⟨.ref s.heap.objs.size, _, I1, rfl, ⟨_, x, rfl, I.hok.fresh (Nat.le_refl _), rfl, fun ys hy => by rw [I.tuple_inj hy hq]; exact hx⟩, ⟨⟨y, ?_⟩, hit'.1.at fun o q => (sb.2 it (Ne.symm hne)).trans q, hne, hai, hea⟩, fun b hb => ?_⟩
    · have e1 : ((i + 1 : Nat) : Int) = (i : Int) + 1 := by omega
      rw [e1]; exact he'
    · have hb' : b < s.heap.objs.size := by
        have e' : b = e ∨ b = it := by simpa using hb
        rcases e' with z | z
        · rw [z]; exact hel
        · rw [z]; exact hil
      rw [upd_ne (Nat.ne_of_lt hb')]
      exact (hf b hb).1
  done := by
    intro X hP hw hK hc i pins s σ H E I hf st hg
    subst hP hw hK
    obtain ⟨⟨old, he⟩, hit, hne, hai, hea⟩ := st
    obtain ⟨xs, hq, hx⟩ := hg
    obtain ⟨its, rv, p, hz⟩ := I.tuple hq
    obtain ⟨f0, f1, f2, f3, f4, f5⟩ := hf it (by simp)
    have hl := rv.length
    have tp : s.heap.IsTuple a its.toArray := p
    have Dd := Draws.tuple (prog := X.prog) (w := X.w) (A := X.A.in1) (I.ok.hd hc) it a hai its.toArray
    -- behind the end the iterator's place does not matter: it has gone through all
    exact wpAny_pyNext_enum_endT (I.ok.hd hc) he hit tp (by simp; omega) fun h' eb => ⟨rfl, I.turned (t' := s.toks) (fun b o hb q => eb b o hb q) f0 f1 f3 f4 f5⟩
  self := fun A i s Q E st h => let ⟨⟨_, he⟩, _⟩ := st; wpAny_pyIter_enum he h
def iEnumT (K : PySem.W.Frag) (ta : TA) : TI := fun σ H R => ta σ H fun vs H1 => ∃ a xs, vs = [.ref a] ∧ SqT K H1 a xs ∧ R (IteT K a) H1
theorem pi_enumT {X : Cx} {e : Expr} {ta : TA} {p pos tpos : Pos} {elts : List Expr} {kk : Nat} (hg : Gl X "enumerate") (hm : X.mg "enumerate" = none) (ha : PA X [e] ta) (hs : starEach [e] X.env = [(false, eval e X.env)] := by rfl) :
    PI X (.Tuple elts kk tpos) (.Call (.Name "enumerate" p) [e] [] pos) (iEnumT X.K ta) := by
  refine ⟨fun pins s σ H R I h => ?_⟩
  refine Call_ (ld_blt I hg hm boot_enumerate (PyProof.Rows.callWith_type1 (thn (ha.run pos pins s σ H _ I h) fun us s1 ⟨vs, H1, I1, r1, q1⟩ => ?_) hs rfl))
  obtain ⟨a, xs, ex, hq, q⟩ := q1
  subst ex
  cases r1 with
  | cons r rr =>
    cases rr
    cases r
    obtain ⟨its, rv, p', hz⟩ := I1.tuple hq
    have hal : a < s1.heap.objs.size := p'.lt
    refine call_enum1 (begins_tuple a its.toArray) (show s1.heap.IsTuple a its.toArray from p') fun h' he hit hsz hk => wpAny_pyIter_enum he ?_
    have I2 : Inv X pins σ H1 { s1 with heap := h' } := I1.kept (t' := s1.toks) hk
    refine ⟨s1.heap.objs.size + 1, [s1.heap.objs.size + 1, s1.heap.objs.size], _, _, H1, rfl, I2, turn_enumT a (s1.heap.objs.size + 1) s1.heap.objs.size, ⟨⟨.none, he⟩, ⟨_, hit, rfl, rfl⟩, Nat.succ_ne_self _, Nat.ne_of_lt hal, fun z => by rw [← z] at hal; exact absurd (Nat.lt_of_succ_lt hal) (Nat.lt_irrefl _)⟩, fun b hb => ?_, q⟩
    have e' : b = s1.heap.objs.size + 1 ∨ b = s1.heap.objs.size := by simpa using hb
    have hle : s1.heap.objs.size ≤ b := by
      rcases e' with z | z
      · rw [z]; exact Nat.le_add_right _ _
      · rw [z]; exact Nat.le_refl _
    exact I1.fpOk hle (I1.hok.fresh hle)

/-! ### over data -/
def enumD (ds : List D) : List D := ds.mapIdx fun i d => .tup [.int (i : Nat), d]
def zipD (xs ys : List D) : List D := List.zipWith (fun x y => .tup [x, y]) xs ys
section
variable {M : Mach} {X : Cx} {N : List Str} {sc : Scope} {vb lb gb : Str → Bool} {B : Bs} {G : Sl} {O : Own} {e a b : Expr} {es : List Expr} {pos p : Pos} {d d1 d2 : D} {ds : List D} {E : EndsD}
theorem pair_rep {K : PySem.W.Frag} {F : Hp} {T : Addr} {x y : V} {dx dy : D} (hT : F T = none) (rx : Rep K F x dx) (ry : Rep K F y dy) : Rep K (upd F T (.tup [x, y])) (.ref T) (.tup [dx, dy]) :=
  .tup (SqT.of upd_same) (.cons (rx.mono (same_upd hT)) (.cons (ry.mono (same_upd hT)) .nil))
theorem enumD_get {i : Nat} (h : i < ds.length) : (enumD ds)[i]? = some (.tup [.int (i : Nat), ds[i]]) := by
  unfold enumD
  simp [h]
theorem enumD_length : (enumD ds).length = ds.length := by
  unfold enumD
  simp
theorem jok_enumT {K : PySem.W.Frag} {F : Hp} {a : Addr} {vs : List V} (hq : SqT K F a vs) (rs : Reps K F vs ds) : JOk K (IteT K a) F [] (enumD ds) where
  go := fun i F2 H2 e1 e2 _ hi => ⟨vs, vs[i]'(by rw [rs.length]; rw [enumD_length] at hi; exact hi), sqT_mono (e1.trans e2) hq, by simp⟩
  stop := fun F2 H2 e1 e2 _ => ⟨vs, sqT_mono (e1.trans e2) hq, by rw [rs.length, enumD_length]; exact Nat.le_refl _⟩
  yld := fun i F2 H2 x H3 e1 e2 _ hi y => by
    obtain ⟨T, z, rfl, hT, rfl, y⟩ := y
    rw [enumD_length] at hi
    obtain ⟨d, hd, r⟩ := rs.get' (y vs (sqT_mono (e1.trans e2) hq))
    have ed : ds[i] = d := by rw [List.getElem?_eq_getElem hi] at hd; exact Option.some.inj hd
    refine ⟨_, enumD_get hi, .inr ⟨T, _, hT, rfl, ?_⟩⟩
    rw [ed]
    exact pair_rep (e2.free hT) (.int _) (r.mono e1)
theorem jok_enumL {K : PySem.W.Frag} {F : Hp} {a : Addr} {vs : List V} (hq : SqL K F a vs) (rs : Reps K F vs ds) : JOk K (Ite K a) F [] (enumD ds) where
  go := fun i F2 H2 e1 e2 _ hi => ⟨vs, vs[i]'(by rw [rs.length]; rw [enumD_length] at hi; exact hi), (e1.trans e2).seq hq, by simp⟩
  stop := fun F2 H2 e1 e2 _ => ⟨vs, (e1.trans e2).seq hq, by rw [rs.length, enumD_length]; exact Nat.le_refl _⟩
  yld := fun i F2 H2 x H3 e1 e2 _ hi y => by
    obtain ⟨T, z, rfl, hT, rfl, y⟩ := y
    rw [enumD_length] at hi
    obtain ⟨d, hd, r⟩ := rs.get' (y vs ((e1.trans e2).seq hq))
    have ed : ds[i] = d := by rw [List.getElem?_eq_getElem hi] at hd; exact Option.some.inj hd
    refine ⟨_, enumD_get hi, .inr ⟨T, _, hT, rfl, ?_⟩⟩
    rw [ed]
    exact pair_rep (e2.free hT) (.int _) (r.mono e1)
theorem wi_enumT {elts : List Expr} {kk : Nat} {tpos : Pos} {Φ : List D → Own → Own → Prop} (C : Cxt M X N sc vb lb gb) (hm : M.mg "enumerate" = none) (hg : gb "enumerate" = true) (h : WE X B G O a fun d O1 => ∃ ds, d = .tup ds ∧ Φ (enumD ds) [] O1) (sa : Plain1 a := by exact fun _ _ => star_cons rfl) :
    WI X B G O (.Tuple elts kk tpos) (.Call (.Name "enumerate" p) [a] [] pos) Φ := fun F σ H S R k =>
  semI (pi_enumT (C.gl _ hg).1 (by rw [C.mg]; exact hm) pa_sem (sa _ _)) ((wa_cons (h.mono fun d O1 z => wa_nil (Φ := fun xs O' => ∃ ds, (d :: xs) = [.tup ds] ∧ Φ (enumD ds) [] O') (by
    obtain ⟨ds, rfl, z⟩ := z
    exact ⟨ds, rfl, z⟩)) (sa _ _) : WA X B G O [a] fun xs O' => ∃ ds, xs = [.tup ds] ∧ Φ (enumD ds) [] O') F σ H S _ fun vs F1 H1 xs O1 S1 e1 r1 p1 => by
    obtain ⟨ds, rfl, p1⟩ := p1
    obtain ⟨v, rfl, rv⟩ := reps1 r1
    cases rv with
    | tup hq rs => exact ⟨_, _, rfl, sqT_mono S1.ex hq, k _ F1 H1 _ [] O1 S1 e1 (jok_enumT hq rs) p1⟩)
theorem wi_enumL {elts : List Expr} {kk : Nat} {tpos : Pos} {Φ : List D → Own → Own → Prop} (C : Cxt M X N sc vb lb gb) (hm : M.mg "enumerate" = none) (hg : gb "enumerate" = true) (h : WE X B G O a fun d O1 => ∃ ds, d = .lst ds ∧ Φ (enumD ds) [] O1) (sa : Plain1 a := by exact fun _ _ => star_cons rfl) :
    WI X B G O (.Tuple elts kk tpos) (.Call (.Name "enumerate" p) [a] [] pos) Φ := fun F σ H S R k =>
  semI (pi_enum (C.gl _ hg).1 (by rw [C.mg]; exact hm) pa_sem (sa _ _)) ((wa_cons (h.mono fun d O1 z => wa_nil (Φ := fun xs O' => ∃ ds, (d :: xs) = [.lst ds] ∧ Φ (enumD ds) [] O') (by
    obtain ⟨ds, rfl, z⟩ := z
    exact ⟨ds, rfl, z⟩)) (sa _ _) : WA X B G O [a] fun xs O' => ∃ ds, xs = [.lst ds] ∧ Φ (enumD ds) [] O') F σ H S _ fun vs F1 H1 xs O1 S1 e1 r1 p1 => by
    obtain ⟨ds, rfl, p1⟩ := p1
    obtain ⟨v, rfl, rv⟩ := reps1 r1
    cases rv with
    | lst hq rs => exact ⟨_, _, rfl, S1.ex.seq hq, k _ F1 H1 _ [] O1 S1 e1 (jok_enumL hq rs) p1⟩)
theorem wiv_enumT {elts : List Expr} {kk : Nat} {tpos : Pos} (C : Cxt M X N sc vb lb gb) (hm : M.mg "enumerate" = none) (hg : gb "enumerate" = true) (h : PEv X B G O a (.tup ds)) (sa : Plain1 a := by exact fun _ _ => star_cons rfl) : WIv X B G O (.Tuple elts kk tpos) (.Call (.Name "enumerate" p) [a] [] pos) (enumD ds) [] := wi_enumT C hm hg (we_pv h ⟨ds, rfl, rfl, rfl, rfl⟩) sa
theorem wiv_enumL {elts : List Expr} {kk : Nat} {tpos : Pos} (C : Cxt M X N sc vb lb gb) (hm : M.mg "enumerate" = none) (hg : gb "enumerate" = true) (h : PEv X B G O a (.lst ds)) (sa : Plain1 a := by exact fun _ _ => star_cons rfl) : WIv X B G O (.Tuple elts kk tpos) (.Call (.Name "enumerate" p) [a] [] pos) (enumD ds) [] := wi_enumL C hm hg (we_pv h ⟨ds, rfl, rfl, rfl, rfl⟩) sa
theorem zipD_get {xs ys : List D} {i : Nat} {x y : D} (h1 : xs[i]? = some x) (h2 : ys[i]? = some y) : (zipD xs ys)[i]? = some (.tup [x, y]) := by
  unfold zipD
  rw [List.getElem?_zipWith, h1, h2]
theorem zipD_length {xs ys : List D} : (zipD xs ys).length = min xs.length ys.length := by
  unfold zipD
  simp
theorem jok_zipT {K : PySem.W.Frag} {F : Hp} {a b : Addr} {vs ws : List V} {xs ys : List D} (hq : SqT K F a vs) (rs : Reps K F vs xs) (hq2 : SqT K F b ws) (rs2 : Reps K F ws ys) : JOk K (RZ.ItzT K a b) F [] (zipD xs ys) where
  go := fun i F2 H2 e1 e2 _ hi => by
    rw [zipD_length] at hi
    exact ⟨vs, ws, vs[i]'(by rw [rs.length]; omega), ws[i]'(by rw [rs2.length]; omega), sqT_mono (e1.trans e2) hq, sqT_mono (e1.trans e2) hq2, by simp, by simp⟩
  stop := fun F2 H2 e1 e2 _ => ⟨vs, ws, sqT_mono (e1.trans e2) hq, sqT_mono (e1.trans e2) hq2, by rw [rs.length, rs2.length, zipD_length]; omega⟩
  yld := fun i F2 H2 x H3 e1 e2 _ hi y => by
    obtain ⟨T, z, z2, rfl, hT, rfl, y, y2⟩ := y
    obtain ⟨d, hd, r⟩ := rs.get' (y vs (sqT_mono (e1.trans e2) hq))
    obtain ⟨d2, hd2, r2⟩ := rs2.get' (y2 ws (sqT_mono (e1.trans e2) hq2))
    exact ⟨_, zipD_get hd hd2, .inr ⟨T, _, hT, rfl, pair_rep (e2.free hT) (r.mono e1) (r2.mono e1)⟩⟩
theorem jok_zipL {K : PySem.W.Frag} {F : Hp} {a b : Addr} {vs ws : List V} {xs ys : List D} (hq : SqL K F a vs) (rs : Reps K F vs xs) (hq2 : SqL K F b ws) (rs2 : Reps K F ws ys) : JOk K (Itz K a b) F [] (zipD xs ys) where
  go := fun i F2 H2 e1 e2 _ hi => by
    rw [zipD_length] at hi
    exact ⟨vs, ws, vs[i]'(by rw [rs.length]; omega), ws[i]'(by rw [rs2.length]; omega), (e1.trans e2).seq hq, (e1.trans e2).seq hq2, by simp, by simp⟩
  stop := fun F2 H2 e1 e2 _ => ⟨vs, ws, (e1.trans e2).seq hq, (e1.trans e2).seq hq2, by rw [rs.length, rs2.length, zipD_length]; omega⟩
  yld := fun i F2 H2 x H3 e1 e2 _ hi y => by
    obtain ⟨T, z, z2, rfl, hT, rfl, y, y2⟩ := y
    obtain ⟨d, hd, r⟩ := rs.get' (y vs ((e1.trans e2).seq hq))
    obtain ⟨d2, hd2, r2⟩ := rs2.get' (y2 ws ((e1.trans e2).seq hq2))
    exact ⟨_, zipD_get hd hd2, .inr ⟨T, _, hT, rfl, pair_rep (e2.free hT) (r.mono e1) (r2.mono e1)⟩⟩
/-- zip of two tuples, of two lists -/
theorem wiv_zip {xs ys : List D} {elts : List Expr} {kk : Nat} {tpos : Pos} (C : Cxt M X N sc vb lb gb) (hm : M.mg "zip" = none) (hg : gb "zip" = true) (ha : PEv X B G O a d1) (hb : PEv X B G O b d2) (h : (d1 = .tup xs ∧ d2 = .tup ys) ∨ (d1 = .lst xs ∧ d2 = .lst ys)) (sa : Plain1 a := by exact fun _ _ => star_cons rfl) (sb : Plain1 b := by exact fun _ _ => star_cons rfl) :
    WIv X B G O (.Tuple elts kk tpos) (.Call (.Name "zip" p) [a, b] [] pos) (zipD xs ys) [] := fun F σ H S R k =>
  semI (RZ.pi_zipA (C.gl _ hg).1 (by rw [C.mg]; exact hm) pa_sem (sa _ _) (plain_any sb)) ((pa_consv ha (pa_consv hb pa_nilv (sb _ _)) (sa _ _) : PAv X B G O [a, b] [d1, d2]) F σ H S _ fun vs F1 H1 zs O1 S1 e1 r1 p1 => by
    obtain ⟨rfl, rfl⟩ := p1
    obtain ⟨v, w, rfl, rv, rw'⟩ := reps2 r1
    rcases h with ⟨rfl, rfl⟩ | ⟨rfl, rfl⟩
    · cases rv with
      | tup hq rs =>
        cases rw' with
        | tup hq2 rs2 => exact ⟨_, _, _, _, rfl, .inr ⟨sqT_mono S1.ex hq, sqT_mono S1.ex hq2, k _ F1 H1 _ [] _ S1 e1 (jok_zipT hq rs hq2 rs2) ⟨rfl, rfl, rfl⟩⟩⟩
    · cases rv with
      | lst hq rs =>
        cases rw' with
        | lst hq2 rs2 => exact ⟨_, _, _, _, rfl, .inl ⟨S1.ex.seq hq, S1.ex.seq hq2, k _ F1 H1 _ [] _ S1 e1 (jok_zipL hq rs hq2 rs2) ⟨rfl, rfl, rfl⟩⟩⟩)

/-! ### methods of lists -/
theorem own_ty {K : PySem.W.Frag} {F H : Hp} {σ : L2.St} {q : Addr} {xs : List D} (S : Sat K B G O F σ H) (hm : (q, OV.lst xs) ∈ O) : tyV K "list" (.ref q) H := by
  obtain ⟨_, vs, hv, _⟩ := S.own _ hm
  exact .inl ⟨rfl, _, SqL.of hv⟩
theorem oset_mem {O O' : Own} {q : Addr} {ov : OV} (h : OSet O q ov O') : q ∈ keys O := h.mem
theorem own_get {K : PySem.W.Frag} {F H : Hp} {σ : L2.St} {q : Addr} {xs : List D} (S : Sat K B G O F σ H) (hm : (q, OV.lst xs) ∈ O) : ∃ vs, H q = some (.lst vs) ∧ Reps K F vs xs := by
  obtain ⟨_, vs, hv, rs⟩ := S.own _ hm
  exact ⟨vs, hv, rs⟩
/-- xs.append(e) -/
theorem we_append {apos : Pos} {q : Addr} {ys : List D} {Φ : D → Own → Prop} (ha : PEv X B G O a (.obj q)) (h0 : (q, OV.lst ys) ∈ O) (h : WE X B G O e fun d O1 => ∃ xs O2, (q, OV.lst xs) ∈ O1 ∧ xs.length < 1000000 ∧ OSet O1 q (.lst (xs ++ [d])) O2 ∧ Φ .non O2)
    (hbase : attributeBase a "append" X.env (eval a X.env) = eval a X.env := by rfl)
    (hfew : ((backTo pos (starEach [e] X.env)).all (fun x => !x.1) && (backToKw pos (keywordEach [] X.env)).all (fun x => x.1.isSome) && decide ([e].length + ([] : List Keyword).length + (if ([] : List Keyword).isEmpty then 0 else 1) < 30)) = true := by rfl)
    (hline : (apos.endLine == pos.line) = true := by rfl) (hs : starEach [e] X.env = (false, eval e X.env) :: starEach [] X.env := by rfl) : WE X B G O (.Call (.Attribute a "append" apos) [e] [] pos) Φ := fun F σ H S Q k => by
  refine sem (pe_bm PySem.F.plainAttrs_list PySem.F.slot_list_append PySem.F.type_list_append mt_append pe_sem (pa_cons pe_sem pa_nil hs) hbase hfew hline hs rfl) ?_
  refine ha F σ H S _ fun v F1 H1 d1 O1 S1 e1 r1 p1 => ?_
  obtain ⟨rfl, rfl⟩ := p1
  cases r1
  refine ⟨own_ty S1 h0, ?_⟩
  refine h F1 σ H1 S1 _ fun u F2 H2 d2 O2 S2 e2 r2 p2 => ?_
  obtain ⟨xs, O3, hm, hl, hs, p2⟩ := p2
  obtain ⟨vs, hv, rs⟩ := own_get S2 hm
  refine ⟨q, vs, u, rfl, rfl, hv, by rw [rs.length]; exact Nat.lt_of_lt_of_le hl (len_line (Nat.le_refl _)), ?_⟩
  exact k _ F2 _ _ O3 (S2.mut hs (ov := .lst (xs ++ [d2])) ⟨_, upd_same, rs.append (.cons r2 .nil)⟩) (e1.trans e2) .non p2
/-- xs.pop() -/
theorem we_pop {apos : Pos} {q : Addr} {ys : List D} {y : D} {O2 : Own} {Φ : D → Own → Prop} (ha : PEv X B G O a (.obj q)) (h0 : (q, OV.lst ys) ∈ O) (hy : ys.getLast? = some y) (hs : OSet O q (.lst ys.dropLast) O2) (h : Φ y O2)
    (hbase : attributeBase a "pop" X.env (eval a X.env) = eval a X.env := by rfl) (hline : (apos.endLine == pos.line) = true := by rfl) : WE X B G O (.Call (.Attribute a "pop" apos) [] [] pos) Φ := fun F σ H S Q k => by
  refine sem (pe_bm0 PySem.F.plainAttrs_list PySem.F.slot_list_pop PySem.F.type_list_pop mt_pop pe_sem hbase hline) ?_
  refine ha F σ H S _ fun v F1 H1 d1 O1 S1 e1 r1 p1 => ?_
  obtain ⟨rfl, rfl⟩ := p1
  cases r1
  obtain ⟨vs, hv, rs⟩ := own_get S1 h0
  rw [List.getLast?_eq_getElem?] at hy
  obtain ⟨u, hu, ru⟩ := rs.get hy
  refine ⟨own_ty S1 h0, q, vs, u, rfl, rfl, hv, by rw [rs.length]; exact hu, ?_⟩
  exact k _ F1 _ _ O2 (S1.mut hs (ov := .lst ys.dropLast) ⟨_, upd_same, rs.dropLast⟩) e1 ru h
/-- xs.pop(i) -/
theorem we_popAt {apos : Pos} {q : Addr} {Φ : D → Own → Prop} (ha : PEv X B G O a (.obj q)) {ys : List D} (h0 : (q, OV.lst ys) ∈ O) (h : WE X B G O e fun d O1 => ∃ (i : Nat) (xs : List D) (y : D) (O2 : Own), d = .int i ∧ (q, OV.lst xs) ∈ O1 ∧ xs[i]? = some y ∧ i < 1000000 ∧ OSet O1 q (.lst (xs.eraseIdx i)) O2 ∧ Φ y O2)
    (hbase : attributeBase a "pop" X.env (eval a X.env) = eval a X.env := by rfl)
    (hfew : ((backTo pos (starEach [e] X.env)).all (fun x => !x.1) && (backToKw pos (keywordEach [] X.env)).all (fun x => x.1.isSome) && decide ([e].length + ([] : List Keyword).length + (if ([] : List Keyword).isEmpty then 0 else 1) < 30)) = true := by rfl)
    (hline : (apos.endLine == pos.line) = true := by rfl) (hs : starEach [e] X.env = (false, eval e X.env) :: starEach [] X.env := by rfl) : WE X B G O (.Call (.Attribute a "pop" apos) [e] [] pos) Φ := fun F σ H S Q k => by
  refine sem (pe_bm PySem.F.plainAttrs_list PySem.F.slot_list_pop PySem.F.type_list_pop mt_popAt pe_sem (pa_cons pe_sem pa_nil hs) hbase hfew hline hs rfl) ?_
  refine ha F σ H S _ fun v F1 H1 d1 O1 S1 e1 r1 p1 => ?_
  obtain ⟨rfl, rfl⟩ := p1
  cases r1
  refine ⟨own_ty S1 h0, ?_⟩
  refine h F1 σ H1 S1 _ fun u F2 H2 d2 O2 S2 e2 r2 p2 => ?_
  obtain ⟨i, xs, y, O3, rfl, hm, hy, hi, hs, p2⟩ := p2
  cases r2
  obtain ⟨vs, hv, rs⟩ := own_get S2 hm
  obtain ⟨u, hu, ru⟩ := rs.get hy
  have hlt := (List.getElem?_eq_some_iff.mp hu).1
  refine ⟨q, vs, i, i, u, rfl, rfl, hv, by omega, by omega, ?_, hu, ?_⟩
  · have z : ixN vs.length (i : Int) = some i := by
      unfold ixN
      rw [if_pos (by omega), if_pos (by omega)]
      simp
    exact (ixN_seq z).1
  · exact k _ F2 _ _ O3 (S2.mut hs (ov := .lst (xs.eraseIdx i)) ⟨_, upd_same, rs.eraseIdx i⟩) (e1.trans e2) ru p2
/-- o[i] = .. -/
theorem wg_sub {vs : Nat → Prop} {Φ : Sl → Own → Prop} (h : WE X B G O a fun d1 O1 => ∃ q, d1 = .obj q ∧ WE X B G O1 b fun d2 O2 => ∃ (i : Int) (j : Nat) (xs : List D) (O3 : Own), d2 = .int i ∧ (q, OV.lst xs) ∈ O2 ∧ ixN xs.length i = some j ∧ OSet O2 q (.lst (xs.set j d)) O3 ∧ Φ G O3)
    (hsb : ∀ v, assign (.Subscript a b pos) X.env v = (do
      let ov ← holding [v] (eval a X.env)
      let iv ← holding [v, ov] (eval b X.env)
      standAt pos
      holding [v, ov, iv] (setItem ov iv v)
      release [v, ov, iv] []) := by intro _; rfl) : WG X B G O (.Subscript a b pos) vs d Φ := fun F σ H v S r Q k => by
  refine semG (pg_sub pe_sem pe_sem set_list hsb) ?_
  refine h F σ H S _ fun u F1 H1 d1 O1 S1 e1 r1 p1 => ?_
  obtain ⟨q, rfl, p1⟩ := p1
  cases r1
  refine p1 F1 σ H1 S1 _ fun w F2 H2 d2 O2 S2 e2 r2 p2 => ?_
  obtain ⟨i, j, xs, O3, rfl, hm, hi, hs, p2⟩ := p2
  cases r2
  obtain ⟨vs, hv, rs⟩ := own_get S2 hm
  refine ⟨q, vs, i, j, rfl, rfl, hv, by rw [rs.length]; exact hi, ?_⟩
  exact k G O3 F2 _ _ (S2.mut hs (ov := .lst (xs.set j d)) ⟨_, upd_same, rs.set ((r.mono e1).mono e2) j⟩) (e1.trans e2) Touch.refl p2

/-! ### == at any depth -/
mutual
def toPy : D → PyData
  | .non => .none
  | .bl b => .bool b
  | .int i => .int i
  | .str x => .str x
  | .ty _ => .dict []
  | .obj _ => .dict []
  | .tup xs => .tuple (toPyL xs)
  | .lst xs => .list (toPyL xs)
def toPyL : List D → List PyData
  | [] => []
  | d :: ds => toPy d :: toPyL ds
end
mutual
theorem dp_of {K : PySem.W.Frag} {F H : Hp} (e : Same F H) : ∀ {v : V} {d : D}, Rep K F v d → (toPy d).canLay0 = true → Dp K H v (toPy d)
  | _, _, .non, _ => .non
  | _, _, .bl b, _ => .bl b
  | _, _, .int i, _ => .int i
  | _, _, .str x, _ => .str x
  | _, _, .ty n, h => by simp [toPy, PyData.canLay0] at h
  | _, _, .obj a, h => by simp [toPy, PyData.canLay0] at h
  | _, _, .tup hq rs, h => .tup (sqT_mono e hq) (dps_of e rs (by simpa [toPy, PyData.canLay0] using h))
  | _, _, .lst hq rs, h => .lst (sqL_mono e hq) (dps_of e rs (by simpa [toPy, PyData.canLay0] using h))
theorem dps_of {K : PySem.W.Frag} {F H : Hp} (e : Same F H) : ∀ {vs : List V} {ds : List D}, Reps K F vs ds → PyData.canLayAll0 (toPyL ds) = true → DpAll K H vs (toPyL ds)
  | _, _, .nil, _ => .nil
  | _, _, .cons (d := d) (ds := ds) r rs, h => by
    have h' : (toPy d).canLay0 = true ∧ PyData.canLayAll0 (toPyL ds) = true := by simpa [toPyL, PyData.canLayAll0] using h
    exact .cons (dp_of e r h'.1) (dps_of e rs h'.2)
end
/-- the datum as == sees it -/
inductive PyOf (O : Own) : D → PyData → Prop
  | val {d : D} : PyOf O d (toPy d)
  | own {q : Addr} {ds : List D} : (q, OV.lst ds) ∈ O → PyOf O (.obj q) (.list (toPyL ds))
def dEqD (f : Bool → Bool) : DR2 := fun x y O Φ => ∃ p q, PyOf O x p ∧ PyOf O y q ∧ SeqAt.shaped p = true ∧ SeqAt.shaped q = true ∧ Φ (.bl (f (PyData.eqv p q))) O
theorem pyOf_dp {K : PySem.W.Frag} {F H : Hp} {σ : L2.St} (S : Sat K B G O F σ H) {v : V} {x : D} {p : PyData} (r : Rep K F v x) (h : PyOf O x p) (hs : SeqAt.shaped p = true) : Dp K H v p := by
  have hc := SeqAt.canLay_of_shaped hs
  cases h with
  | val => exact dp_of S.ex r hc
  | own hm =>
    obtain ⟨vs, hv, rs⟩ := own_get S hm
    cases r
    exact .lst (SqL.of hv) (dps_of S.ex rs (by simpa [PyData.canLay0] using hc))
theorem dop_eqD : DOp X (rEqD X.K) (dEqD id) := fun B G O F σ H x y dx dy Φ S rx ry h Q k => by
  obtain ⟨p, q, h1, h2, s1, s2, z⟩ := h
  exact ⟨p, q, pyOf_dp S rx h1 s1, pyOf_dp S ry h2 s2, s1, s2, k _ F H _ O S (Same.refl _) (.bl _) z⟩
theorem dop_neD : DOp X (rNeD X.K) (dEqD not) := fun B G O F σ H x y dx dy Φ S rx ry h Q k => by
  obtain ⟨p, q, h1, h2, s1, s2, z⟩ := h
  exact ⟨p, q, pyOf_dp S rx h1 s1, pyOf_dp S ry h2 s2, s1, s2, k _ F H _ O S (Same.refl _) (.bl _) z⟩
theorem dEqD_mono {f : Bool → Bool} {x y : D} (O : Own) (Φ Ψ : D → Own → Prop) (k : ∀ d O, Φ d O → Ψ d O) : dEqD f x y O Φ → dEqD f x y O Ψ := fun ⟨p, q, a, b, c, d, z⟩ => ⟨p, q, a, b, c, d, k _ _ z⟩
variable {p1 p2 : PyData}
theorem pt_eqD (C : Cxt M X N sc vb lb gb) (ha : PEv X B G O a d1) (hb : PEv X B G O b d2) (h1 : PyOf O d1 p1) (h2 : PyOf O d2 p2) (s1 : SeqAt.shaped p1 = true) (s2 : SeqAt.shaped p2 = true) : PTv X B G O (.Compare a [.Eq] [b] pos) (PyData.eqv p1 p2) :=
  ptv_cmp (op_eqD C.un) dop_eqD (nomark _) ha hb ⟨_, _, h1, h2, s1, s2, rfl, rfl⟩ dEqD_mono
theorem pt_neD (C : Cxt M X N sc vb lb gb) (ha : PEv X B G O a d1) (hb : PEv X B G O b d2) (h1 : PyOf O d1 p1) (h2 : PyOf O d2 p2) (s1 : SeqAt.shaped p1 = true) (s2 : SeqAt.shaped p2 = true) : PTv X B G O (.Compare a [.NotEq] [b] pos) (!PyData.eqv p1 p2) :=
  ptv_cmp (op_neD C.un) dop_neD (nomark _) ha hb ⟨_, _, h1, h2, s1, s2, rfl, rfl⟩ dEqD_mono
theorem pv_eqD (C : Cxt M X N sc vb lb gb) (ha : PEv X B G O a d1) (hb : PEv X B G O b d2) (h1 : PyOf O d1 p1) (h2 : PyOf O d2 p2) (s1 : SeqAt.shaped p1 = true) (s2 : SeqAt.shaped p2 = true) : PEv X B G O (.Compare a [.Eq] [b] pos) (.bl (PyData.eqv p1 p2)) :=
  pv_cmp (op_eqD C.un) dop_eqD (nomark _) ha hb ⟨_, _, h1, h2, s1, s2, rfl, rfl⟩
theorem pv_neD (C : Cxt M X N sc vb lb gb) (ha : PEv X B G O a d1) (hb : PEv X B G O b d2) (h1 : PyOf O d1 p1) (h2 : PyOf O d2 p2) (s1 : SeqAt.shaped p1 = true) (s2 : SeqAt.shaped p2 = true) : PEv X B G O (.Compare a [.NotEq] [b] pos) (.bl (!PyData.eqv p1 p2)) :=
  pv_cmp (op_neD C.un) dop_neD (nomark _) ha hb ⟨_, _, h1, h2, s1, s2, rfl, rfl⟩
theorem toPyL_map {α : Type} (f : α → D) : ∀ xs : List α, toPyL (xs.map f) = xs.map fun x => toPy (f x)
  | [] => rfl
  | x :: xs => by
    show toPy (f x) :: toPyL (xs.map f) = _
    rw [toPyL_map f xs] <;> rfl
theorem shaped_list : ∀ (ds : List PyData), (∀ d ∈ ds, d.canLay0 = true ∧ d.depth ≤ 60) → PyData.canLayAll0 ds = true ∧ PyData.depthAll ds ≤ 60
  | [], _ => ⟨rfl, Nat.zero_le _⟩
  | d :: ds, h => by
    obtain ⟨h1, h2⟩ := shaped_list ds fun x hx => h x (List.mem_cons_of_mem _ hx)
    obtain ⟨h3, h4⟩ := h d List.mem_cons_self
    refine ⟨?_, ?_⟩
    · show (d.canLay0 && PyData.canLayAll0 ds) = true
      rw [h3, h1] <;> rfl
    · show max (PyData.depth d) (PyData.depthAll ds) ≤ 60
      omega
/-- a list of simple data -/
theorem shaped_map {α : Type} {f : α → D} {xs : List α} (h : ∀ x ∈ xs, (toPy (f x)).canLay0 = true ∧ (toPy (f x)).depth ≤ 60) : SeqAt.shaped (.list (toPyL (xs.map f))) = true := by
  rw [toPyL_map]
  obtain ⟨h1, h2⟩ := shaped_list (xs.map fun x => toPy (f x)) fun d hd => by
    obtain ⟨x, hx, rfl⟩ := List.mem_map.mp hd
    exact h x hx
  unfold SeqAt.shaped
  rw [Bool.and_eq_true]
  refine ⟨h1, decide_eq_true ?_⟩
  show PyData.depthAll _ + 1 ≤ 64
  omega
theorem eqv_nil (xs : List PyData) : PyData.eqv (.list xs) (.list []) = xs.isEmpty := by
  cases xs <;> rfl
end
end Dl

set_option Elab.async false
set_option linter.all false
set_option maxRecDepth 100000
set_option maxHeartbeats 2000000
/-! D7: small helps for the walks. -/
namespace Dl
open PySem PySem.Spec PyProof.Rows L2
theorem at0 {x : D} {r : List D} : atI (x :: r) 0 = some x := by
  show ((if (0 : Int) ≤ 0 then (if (0 : Int) < ((r.length + 1 : Nat) : Int) then some (0 : Int).toNat else none) else _).bind fun j => (x :: r)[j]?) = some x
  rw [if_pos (by omega), if_pos (by omega)]
  rfl
theorem atN {ds : List D} {j : Nat} {x : D} (h : ds[j]? = some x) : atI ds (j : Int) = some x := atI_nat h
theorem at1 {x y : D} {r : List D} : atI (x :: y :: r) 1 = some y := atI_nat (j := 1) rfl
theorem at2 {x y z : D} {r : List D} : atI (x :: y :: z :: r) 2 = some z := atI_nat (j := 2) rfl
theorem at3 {x y z u : D} {r : List D} : atI (x :: y :: z :: u :: r) 3 = some u := atI_nat (j := 3) rfl
theorem at4 {x y z u v : D} {r : List D} : atI (x :: y :: z :: u :: v :: r) 4 = some v := atI_nat (j := 4) rfl
section
variable {M : Mach} {X : Cx} {N : List Str} {sc : Scope} {vb lb gb : Str → Bool} {B : Bs} {G : Sl} {O : Own} {e a b : Expr} {es : List Expr} {pos p : Pos} {d d1 d2 : D} {ds : List D}
theorem ItemsL.py {O : Own} {d : D} {ds : List D} (h : ItemsL O d ds) : PyOf O d (.list (toPyL ds)) := by
  cases h with
  | lst => exact .val
  | own hm => exact .own hm
/-- xs != [], xs == [] -/
theorem pt_neNil (C : Cxt M X N sc vb lb gb) (ha : PEv X B G O a d1) (it : ItemsL O d1 ds) (sh : SeqAt.shaped (.list (toPyL ds)) = true) : PTv X B G O (.Compare a [.NotEq] [.List [] p] pos) (!ds.isEmpty) :=
  (pt_neD C ha (pv_frz (pn_lst pa_nilv)) it.py (.val (d := .lst [])) sh rfl).to (by
    show (!PyData.eqv (.list (toPyL ds)) (.list [])) = _
    rw [eqv_nil]
    cases ds <;> rfl)
theorem pt_eqNil (C : Cxt M X N sc vb lb gb) (ha : PEv X B G O a d1) (it : ItemsL O d1 ds) (sh : SeqAt.shaped (.list (toPyL ds)) = true) : PTv X B G O (.Compare a [.Eq] [.List [] p] pos) ds.isEmpty :=
  (pt_eqD C ha (pv_frz (pn_lst pa_nilv)) it.py (.val (d := .lst [])) sh rfl).to (by
    show PyData.eqv (.list (toPyL ds)) (.list []) = _
    rw [eqv_nil]
    cases ds <;> rfl)
end
theorem ix0 {x : D} {r : List D} : ixN (x :: r).length 0 = some 0 := by
  unfold ixN
  rw [if_pos (by omega), if_pos (by rw [List.length_cons]; omega)]
  rfl
theorem ix1 {x y : D} {r : List D} : ixN (x :: y :: r).length 1 = some 1 := by
  unfold ixN
  rw [if_pos (by omega), if_pos (by rw [List.length_cons, List.length_cons]; omega)]
  rfl
/-- a test that is told -/
theorem if_t {c : Bool} {A B : Prop} (hc : c = true) (h : A) : if c = true then A else B := by rw [if_pos hc]; exact h
theorem if_f {c : Bool} {A B : Prop} (hc : c = false) (h : B) : if c = true then A else B := by rw [hc]; exact h
theorem if_2 {c : Bool} {A B : Prop} (h1 : c = true → A) (h2 : c = false → B) : if c = true then A else B := by
  cases c with
  | true => exact h1 rfl
  | false => exact h2 rfl
theorem if_d {q : Prop} [Decidable q] {A B : Prop} (h1 : q → A) (h2 : ¬ q → B) : if decide q = true then A else B := by
  by_cases h : q
  · rw [if_pos (decide_eq_true h)]; exact h1 h
  · rw [if_neg (by rw [decide_eq_false h]; decide)]; exact h2 h
end Dl

set_option Elab.async false
set_option linter.all false
set_option maxRecDepth 100000
set_option maxHeartbeats 2000000
/-! D8: more helps. -/
namespace Dl
open PySem PySem.Spec PyProof.Rows L2
theorem enum_at {α : Type} {xs : List α} {f : α → D} {i : Nat} {d : D} (h : (enumD (xs.map f))[i]? = some d) : ∃ x, xs[i]? = some x ∧ d = .tup [.int (i : Nat), f x] ∧ xs.drop i = x :: xs.drop (i + 1) := by
  unfold enumD at h
  rw [List.getElem?_mapIdx, List.getElem?_map] at h
  cases e : xs[i]? with
  | none => rw [e] at h; cases h
  | some x =>
    rw [e] at h
    obtain ⟨hi, ex⟩ := List.getElem?_eq_some_iff.mp e
    exact ⟨x, rfl, (Option.some.inj h).symm, by rw [← ex]; exact List.drop_eq_getElem_cons hi⟩
theorem map_at {α : Type} {xs : List α} {f : α → D} {i : Nat} {d : D} (h : (xs.map f)[i]? = some d) : ∃ x, xs[i]? = some x ∧ d = f x ∧ xs.drop i = x :: xs.drop (i + 1) := by
  rw [List.getElem?_map] at h
  cases e : xs[i]? with
  | none => rw [e] at h; cases h
  | some x =>
    rw [e] at h
    obtain ⟨hi, ex⟩ := List.getElem?_eq_some_iff.mp e
    exact ⟨x, rfl, (Option.some.inj h).symm, by rw [← ex]; exact List.drop_eq_getElem_cons hi⟩
section
variable {M : Mach} {X : Cx} {N : List Str} {sc : Scope} {vb lb gb : Str → Bool} {B : Bs} {G : Sl} {O : Own} {e a b elt : Expr} {es : List Expr} {pos p : Pos} {d d1 d2 : D} {ds : List D} {E : EndsD}
theorem wss_perm {O' : Own} {sts : List Stmt} (hp : O.Perm O') (h : WSs X B G O' sts E) : WSs X B G O sts E := fun F σ H S D' k => h F σ H (S.perm hp) D' k
theorem we_perm {O' : Own} {Φ : D → Own → Prop} (hp : O.Perm O') (h : WE X B G O' e Φ) : WE X B G O e Φ := fun F σ H S Q k => h F σ H (S.perm hp) Q k
/-- less is said behind a value -/
theorem we_less {Φ : D → Own → Prop} (h : WE X B G O e fun d O' => ∃ O'', O''.Sublist O' ∧ Φ d O'') : WE X B G O e Φ := fun F σ H S Q k => h F σ H S Q fun v F' H' d O' S' e' r p => by
  obtain ⟨O'', hs, p⟩ := p
  exact k v F' H' d O'' (S'.sub (fun p hp => hs.subset hp) ((hs.map _).nodup S'.nd)) e' r p
theorem ws_less {st : Stmt} (h : WS X B G O st (E.to fun G' O' => ∃ O'', O''.Sublist O' ∧ E.nx G' O'')) : WS X B G O st E := fun F σ H S D' k =>
  h F σ H S D' ⟨fun G' O' F' σ' H' S' e' p => by
    obtain ⟨O'', hs, p⟩ := p
    exact k.nx G' O'' F' σ' H' (S'.sub (fun p hp => hs.subset hp) ((hs.map _).nodup S'.nd)) e' p, k.rt, k.bk, k.ct⟩
theorem pn_lcA {α : Type} {xs : List α} {enc : α → D} {f : α → D} {lk : Own} {scope : Scope} {own : List (Str × Nat)} {tg iter : Expr} {ifs : List Expr} (C : Cxt M X N sc vb lb gb) (hb : blkC N sc scope own = true)
    (hi : WIv X B G O tg iter (xs.map enc) lk) (hk : ∀ p ∈ lk, p ∈ O) (hl : xs.length ≤ 1000000) (ht : ∀ x ∈ xs, LcPure M X N sc scope G (own.map (·.2)) O tg ifs elt (enc x) true (f x)) (hs : ∀ x, foldedSetIterable iter X.env x = pure x := by intro _; rfl) :
    PNv X B G O (.ListComp elt [⟨tg, iter, ifs, 0⟩] scope pos) (xs.map f) := by
  have z := pn_lc (elt := elt) (pos := pos) (c := fun _ => true) C hb hi hk hl ht hs
  rw [List.filter_eq_self.mpr (fun _ _ => rfl)] at z
  exact z
theorem pv_sumLc {α : Type} {xs : List α} {enc : α → D} {c : α → Bool} {f : α → Int} {lk : Own} {scope : Scope} {own : List (Str × Nat)} {tg iter : Expr} {ifs : List Expr} {lpos : Pos} (C : Cxt M X N sc vb lb gb) (hm : M.mg "sum" = none) (hg : gb "sum" = true) (hb : blkC N sc scope own = true)
    (hi : WIv X B G O tg iter (xs.map enc) lk) (hk : ∀ p ∈ lk, p ∈ O) (hl : xs.length ≤ 1000000) (ht : ∀ x ∈ xs, LcPure M X N sc scope G (own.map (·.2)) O tg ifs elt (enc x) (c x) (.int (f x))) (hs : ∀ x, foldedSetIterable iter X.env x = pure x := by intro _; rfl) :
    PEv X B G O (.Call (.Name "sum" p) [.ListComp elt [⟨tg, iter, ifs, 0⟩] scope lpos] [] pos) (.int ((xs.filter c).map f).sum) :=
  pv_sum C (pv_frz (pn_lc (f := fun x => .int (f x)) C hb hi hk hl ht hs)) (by
    have : (xs.filter c).map (fun x => D.int (f x)) = ((xs.filter c).map f).map D.int := by rw [List.map_map]; rfl
    rw [this]
    exact .lst) hm hg
theorem pv_sumLcA {α : Type} {xs : List α} {enc : α → D} {f : α → Int} {lk : Own} {scope : Scope} {own : List (Str × Nat)} {tg iter : Expr} {ifs : List Expr} {lpos : Pos} (C : Cxt M X N sc vb lb gb) (hm : M.mg "sum" = none) (hg : gb "sum" = true) (hb : blkC N sc scope own = true)
    (hi : WIv X B G O tg iter (xs.map enc) lk) (hk : ∀ p ∈ lk, p ∈ O) (hl : xs.length ≤ 1000000) (ht : ∀ x ∈ xs, LcPure M X N sc scope G (own.map (·.2)) O tg ifs elt (enc x) true (.int (f x))) (hs : ∀ x, foldedSetIterable iter X.env x = pure x := by intro _; rfl) :
    PEv X B G O (.Call (.Name "sum" p) [.ListComp elt [⟨tg, iter, ifs, 0⟩] scope lpos] [] pos) (.int (xs.map f).sum) := by
  have z := pv_sumLc (elt := elt) (pos := pos) (p := p) (lpos := lpos) (c := fun _ => true) C hm hg hb hi hk hl ht hs
  rw [List.filter_eq_self.mpr (fun _ _ => rfl)] at z
  exact z
/-- tuple(what a call gives) -/
theorem we_tuple {Φ : D → Own → Prop} (C : Cxt M X N sc vb lb gb) (hm : M.mg "tuple" = none) (hg : gb "tuple" = true) (h : WE X B G O a fun d O1 => ∃ ds, Items O1 d ds ∧ Φ (.tup ds) O1) (sa : Plain1 a := by exact fun _ _ => star_cons rfl) : WE X B G O (.Call (.Name "tuple" p) [a] [] pos) Φ :=
  we_callTy (R := fun xs O Φ => ∃ d ds, xs = [d] ∧ Items O d ds ∧ Φ (.tup ds) O) C call_tuple_of (fun B G O F σ H xs ds Φ S r h Q k => by
    obtain ⟨d, ds, rfl, it, q⟩ := h
    obtain ⟨v, rfl, rv⟩ := reps1 r
    have lst : ∀ {d : D} {ds : List D}, Rep X.K F v d → ItemsL O d ds → Φ (.tup ds) O → (fun xs H Q => ∃ p ys, xs = [V.ref p] ∧ ((SqL X.K H p ys ∧ ∀ l, H l = none → Q (.ref l) (upd H l (.tup ys))) ∨ (SqT X.K H p ys ∧ Q (.ref p) H))) [v] H Q := fun {d ds} rv it q => by
      obtain ⟨a, vs, rfl, rs, hq⟩ := itemsL_ok S rv it
      exact ⟨a, vs, rfl, .inl ⟨hq, fun l hl => by
        have S2 := S.alloc hl (.tup vs)
        have e2 : Same F (upd F l (.tup vs)) := same_upd (S.fresh hl).1
        exact k _ _ _ _ O S2 e2 (.tup (SqT.of upd_same) (rs.mono e2)) q⟩⟩
    cases it with
    | tup =>
      cases rv with
      | tup hq rs => exact ⟨_, _, rfl, .inr ⟨sqT_mono S.ex hq, k _ F H _ O S (Same.refl _) (.tup hq rs) q⟩⟩
    | lst => exact lst rv .lst q
    | own hm => exact lst rv (.own hm) q) hm hg (by decide +kernel) (wa_cons (h.mono fun d O1 z => wa_nil (by
      obtain ⟨ds, it, q⟩ := z
      exact ⟨d, ds, rfl, it, q⟩)) (sa _ _)) (he := sa _ _)
end
end Dl

set_option Elab.async false
set_option linter.all false
set_option maxRecDepth 100000
set_option maxHeartbeats 2000000
/-! D9: a, b = x, y with plain local names. -/
namespace Dl
open PySem PySem.Spec PyProof.Rows L2
theorem swap2 {env : Env} {x y : Str} {a b : Expr} {px py pt pt2 : Pos} {kt k2} (hk : env.blockKind = .function) (hx : env.kindOf x = some .local) (hy : env.kindOf y = some .local) (hl : (py.line == px.line) = true) (hxy : ([x, y].eraseDups.length != 2) = false)
    (hst : ([a, b].any fun | .Starred .. => true | _ => false) = false) (hf : [a, b].all (foldedForSure 8) = false) (hc : [a, b].all (constantsAlone 8) = false) :
    swappedStores [.Tuple [.Name x px, .Name y py] kt pt] (.Tuple [a, b] k2 pt2) env = pure (some [x, y]) := by
  unfold swappedStores
  have hx1 : (env.kindOf x == some NameKind.local) = true := by rw [hx]; rfl
  have hy1 : (env.kindOf y == some NameKind.local) = true := by rw [hy]; rfl
  have hb : (env.blockKind != ScopeKind.function) = false := by rw [hk]; rfl
  simp only [List.filterMap_cons, List.filterMap_nil, List.head?_cons, Option.map_some, Option.getD_some, Expr.pos, hx1, hy1, hl, hb, Bool.and_self, beq_self_eq_true, if_true, hxy, hf, hc, List.length_cons, List.length_nil, Bool.or_false]
  refine Eq.trans (if_neg ?_) ?_
  · decide
  refine Eq.trans (if_neg ?_) ?_
  · exact fun h => Bool.false_ne_true (hst.symm.trans h)
  rfl
theorem swap3 {env : Env} {x y z : Str} {a b c : Expr} {px py pz pt pt2 : Pos} {kt k2} (hk : env.blockKind = .function) (hx : env.kindOf x = some .local) (hy : env.kindOf y = some .local) (hz : env.kindOf z = some .local) (hl : (py.line == px.line) = true) (hl2 : (pz.line == px.line) = true) (hxy : ([x, y, z].eraseDups.length != 3) = false)
    (hst : ([a, b, c].any fun | .Starred .. => true | _ => false) = false) (hf : [a, b, c].all (foldedForSure 8) = false) (hc : [a, b, c].all (constantsAlone 8) = false) :
    swappedStores [.Tuple [.Name x px, .Name y py, .Name z pz] kt pt] (.Tuple [a, b, c] k2 pt2) env = pure (some [x, y, z]) := by
  unfold swappedStores
  have hx1 : (env.kindOf x == some NameKind.local) = true := by rw [hx]; rfl
  have hy1 : (env.kindOf y == some NameKind.local) = true := by rw [hy]; rfl
  have hz1 : (env.kindOf z == some NameKind.local) = true := by rw [hz]; rfl
  have hb : (env.blockKind != ScopeKind.function) = false := by rw [hk]; rfl
  simp only [List.filterMap_cons, List.filterMap_nil, List.head?_cons, Option.map_some, Option.getD_some, Expr.pos, hx1, hy1, hz1, hl, hl2, hb, Bool.and_self, beq_self_eq_true, if_true, hxy, hf, hc, List.length_cons, List.length_nil, Bool.or_false]
  refine Eq.trans (if_neg ?_) ?_
  · decide
  refine Eq.trans (if_neg ?_) ?_
  · exact fun h => Bool.false_ne_true (hst.symm.trans h)
  rfl
theorem line_fn {env : Env} (h : env.scope.kind = .function) : env.blockKind = .function := by
  unfold Env.blockKind
  rw [h]
  rfl
section
variable {M : Mach} {X : Cx} {N : List Str} {sc : Scope} {vb lb gb : Str → Bool} {B : Bs} {G : Sl} {O : Own} {a b c : Expr} {pos : Pos} {E : EndsD}
theorem ws_par {x y : Str} {i j : Nat} {f : D → Sl} {g2 : D → D → Sl} {px py pt pt2 : Pos} {kt k2} (C : Cxt M X N sc vb lb gb) (h1 : SetAt N G x i f) (h2 : ∀ d, SetAt N (f d) y j (g2 d)) (hl : (py.line == px.line) = true)
    (lx : sc.names.lookup x = some .local) (ly : sc.names.lookup y = some .local) (hxy : ([x, y].eraseDups.length != 2) = false) (hij : i ≠ j) (hf : [a, b].all (foldedForSure 8) = false) (hc : [a, b].all (constantsAlone 8) = false)
    (h : WA X B G O [a, b] fun ds O' => ∃ d e, ds = [d, e] ∧ E.nx (g2 d e) O') (hst : ([a, b].any fun | .Starred .. => true | _ => false) = false := by rfl) (hs : swapsWithSole [.Tuple [.Name x px, .Name y py] kt pt] (.Tuple [a, b] k2 pt2) pos.line X.env = pure false := by rfl) :
    WS X B G O (.Assign [.Tuple [.Name x px, .Name y py] kt pt] (.Tuple [a, b] k2 pt2) pos) E := fun F σ H S D' k => by
  obtain ⟨i1, i2⟩ := h1.ix
  have j1 := (h2 .non).ix.1
  have lx' : X.env.scope.names.lookup x = some .local := by rw [C.hsc]; exact lx
  have ly' : X.env.scope.names.lookup y = some .local := by rw [C.hsc]; exact ly
  refine semS (ps_par (i := i) (j := j) C.calm (by rw [C.hN]; exact C.nd) (by rw [C.hN]; exact i1) (by rw [C.hN]; exact j1) hij lx' ly' pa_sem (swap2 (line_fn C.kf) lx' ly' hl hxy hst hf hc) hs) ?_
  exact h F σ H S _ fun vs F' H' ds O' S' e' r p => by
    obtain ⟨d, e, rfl, p⟩ := p
    obtain ⟨v, w, rfl, rv, rw'⟩ := reps2 r
    refine ⟨v, w, rfl, ?_⟩
    have z := (h2 d).ix.2 
    rw [z, i2] at p
    exact k.nx _ O' F' _ H' ((S'.set rv).set rw') e' p
theorem ws_par3 {x y z : Str} {i j l : Nat} {f : D → Sl} {g2 : D → D → Sl} {g3 : D → D → D → Sl} {px py pz pt pt2 : Pos} {kt k2} (C : Cxt M X N sc vb lb gb) (h1 : SetAt N G x i f) (h2 : ∀ d, SetAt N (f d) y j (g2 d)) (h3 : ∀ d e, SetAt N (g2 d e) z l (g3 d e)) (hl : (py.line == px.line) = true) (hl2 : (pz.line == px.line) = true)
    (lx : sc.names.lookup x = some .local) (ly : sc.names.lookup y = some .local) (lz : sc.names.lookup z = some .local) (hxy : ([x, y, z].eraseDups.length != 3) = false) (hij : i ≠ j) (hil : i ≠ l) (hjl : j ≠ l) (hf : [a, b, c].all (foldedForSure 8) = false) (hc : [a, b, c].all (constantsAlone 8) = false)
    (h : WA X B G O [a, b, c] fun ds O' => ∃ d e q, ds = [d, e, q] ∧ E.nx (g3 d e q) O') (hst : ([a, b, c].any fun | .Starred .. => true | _ => false) = false := by rfl) (hs : swapsWithSole [.Tuple [.Name x px, .Name y py, .Name z pz] kt pt] (.Tuple [a, b, c] k2 pt2) pos.line X.env = pure false := by rfl) :
    WS X B G O (.Assign [.Tuple [.Name x px, .Name y py, .Name z pz] kt pt] (.Tuple [a, b, c] k2 pt2) pos) E := fun F σ H S D' k => by
  obtain ⟨i1, i2⟩ := h1.ix
  have j1 := (h2 .non).ix.1
  have l1 := (h3 .non .non).ix.1
  have lx' : X.env.scope.names.lookup x = some .local := by rw [C.hsc]; exact lx
  have ly' : X.env.scope.names.lookup y = some .local := by rw [C.hsc]; exact ly
  have lz' : X.env.scope.names.lookup z = some .local := by rw [C.hsc]; exact lz
  refine semS (L2.ps_par3 (i := i) (j := j) (l := l) C.calm (by rw [C.hN]; exact C.nd) (by rw [C.hN]; exact i1) (by rw [C.hN]; exact j1) (by rw [C.hN]; exact l1) hij hil hjl lx' ly' lz' pa_sem (swap3 (line_fn C.kf) lx' ly' lz' hl hl2 hxy hst hf hc) hs) ?_
  exact h F σ H S _ fun vs F' H' ds O' S' e' r p => by
    obtain ⟨d, e, q, rfl, p⟩ := p
    cases r with
    | cons r1 r =>
      obtain ⟨v, w, rfl, rv, rw'⟩ := reps2 r
      refine ⟨_, v, w, rfl, ?_⟩
      have y1 := (h3 d e).ix.2 
      have y2 := (h2 d).ix.2 
      rw [y1, y2, i2] at p
      exact k.nx _ O' F' _ H' (((S'.set r1).set rv).set rw') e' p
end
end Dl

set_option Elab.async false
set_option linter.all false
set_option maxRecDepth 100000
set_option maxHeartbeats 2000000
/-! D10: isinstance, a <= x <= b, x in (..), calls that change nothing. -/
namespace Dl
open PySem PySem.Spec PyProof.Rows L2
/-- the type of a value -/
inductive TyD (O : Own) : D → String → Prop
  | non : TyD O .non "NoneType"
  | bl (b : Bool) : TyD O (.bl b) "bool"
  | int (i : Int) : TyD O (.int i) "int"
  | str (x : Str) : TyD O (.str x) "str"
  | tup (ds : List D) : TyD O (.tup ds) "tuple"
  | lst (ds : List D) : TyD O (.lst ds) "list"
  | own {a : Addr} {ds : List D} (h : (a, OV.lst ds) ∈ O) : TyD O (.obj a) "list"
theorem tyX_of {K : PySem.W.Frag} {B : Bs} {G : Sl} {O : Own} {F H : Hp} {σ : L2.St} {x : V} {d : D} {t : String} (S : Sat K B G O F σ H) (r : Rep K F x d) (h : TyD O d t) : TyX K H x (.type t) := by
  cases h with
  | non => cases r; exact .base .non
  | bl b => cases r; exact .base (.bl b)
  | int i => cases r; exact .base (.int i)
  | str z => cases r; exact .base (.str z)
  | tup ds =>
    cases r with
    | tup hq _ =>
      rcases sqT_mono S.ex hq with (e | ⟨o, e⟩) | ⟨o, its, n, e, c, _⟩
      · exact .base (.tup e)
      · exact .fTuple e
      · exact .kTuple e c
  | lst ds =>
    cases r with
    | lst hq _ =>
      rcases S.ex.seq hq with (e | ⟨o, e⟩) | ⟨o, its, n, e, c, _⟩
      · exact .base (.lst e)
      · exact .base (.frz e)
      · exact .kList e c
  | own hm =>
    cases r
    obtain ⟨_, vs, hv, _⟩ := S.own _ hm
    exact .base (.lst hv)
section
variable {M : Mach} {X : Cx} {N : List Str} {sc : Scope} {vb lb gb : Str → Bool} {B : Bs} {G : Sl} {O : Own} {e a b c : Expr} {es : List Expr} {pos p : Pos} {d d1 d2 : D} {ds : List D} {E : EndsD}
theorem pv_isi {t n : String} {q : Bool} (C : Cxt M X N sc vb lb gb) (hm : M.mg "isinstance" = none) (hg : gb "isinstance" = true) (ha : PEv X B G O a d) (ht : TyD O d t) (hb : PEv X B G O b (.ty n)) (hk : kitB t n = some q) (sa : Plain1 a := by exact fun _ _ => star_cons rfl) (sb : Plain1 b := by exact fun _ _ => star_cons rfl) :
    PEv X B G O (.Call (.Name "isinstance" p) [a, b] [] pos) (.bl q) :=
  we_callB (R := fun xs O Φ => ∃ d t n q, xs = [d, .ty n] ∧ TyD O d t ∧ kitB t n = some q ∧ Φ (.bl q) O) C call_isi (fun B G O F σ H xs ds Φ S r h Q k => by
    obtain ⟨d, t, n, q, rfl, ht, hk, z⟩ := h
    obtain ⟨v, w, rfl, rv, rw⟩ := reps2 r
    cases rw
    exact ⟨v, .ty n, _, _, q, rfl, .ty n, tyX_of S rv ht, kit_ty hk, k _ F H _ O S (Same.refl _) (.bl _) z⟩) hm hg (by decide +kernel) (wa_cons (we_pv ha (wa_cons (we_pv hb (wa_nil ⟨d, t, n, q, rfl, ht, hk, rfl, rfl⟩)) (sb _ _))) (sa _ _)) (he := sa _ _) (hpl := plain_any sb)
/-- a op b op c, ints -/
theorem pv_chain {op op' : CmpOp} {g g' : Int → Int → Bool} {i j l : Int} (ho : OpR X (compareOp op) (rI0 fun i j => .bl (g i j))) (ho' : OpR X (compareOp op') (rI0 fun i j => .bl (g' i j))) (ha : PEv X B G O a (.int i)) (hb : PEv X B G O b (.int j)) (hc : PEv X B G O c (.int l)) (hm : lastMarks [op, op'] [b, c] = false := by with_unfolding_all rfl) :
    PEv X B G O (.Compare a [op, op'] [b, c] pos) (.bl (g i j && g' j l)) := fun F σ H S Q k => sem (pe_chain ho ho' pe_sem pe_sem pe_sem hm)
  (ha F σ H S _ fun v F1 H1 d1 O1 S1 e1 r1 p1 => by
    obtain ⟨rfl, rfl⟩ := p1
    cases r1
    refine hb F1 σ H1 S1 _ fun v F2 H2 d2 O2 S2 e2 r2 p2 => ?_
    obtain ⟨rfl, rfl⟩ := p2
    cases r2
    refine ⟨i, j, rfl, rfl, g i j, rfl, ?_⟩
    cases hg : g i j with
    | false => exact k _ F2 H2 _ O2 S2 (e1.trans e2) (.bl _) ⟨by rw [hg]; rfl, rfl⟩
    | true =>
      refine hc F2 σ H2 S2 _ fun v F3 H3 d3 O3 S3 e3 r3 p3 => ?_
      obtain ⟨rfl, rfl⟩ := p3
      cases r3
      exact ⟨j, l, rfl, rfl, k _ F3 H3 _ O3 S3 ((e1.trans e2).trans e3) (.bl _) ⟨by rw [hg]; rfl, rfl⟩⟩)
theorem pv_leLe {i j l : Int} (ha : PEv X B G O a (.int i)) (hb : PEv X B G O b (.int j)) (hc : PEv X B G O c (.int l)) (hm : lastMarks [.LtE, .LtE] [b, c] = false := by with_unfolding_all rfl) : PEv X B G O (.Compare a [.LtE, .LtE] [b, c] pos) (.bl (decide (i ≤ j) && decide (j ≤ l))) := pv_chain op_le op_le ha hb hc hm
theorem pt_ofv {c : Bool} (h : PEv X B G O e (.bl c)) (he : ∀ whole, isTrue e X.env whole = (do let v ← whole; standAt e.pos; holding [v] (truthy v)) := by intro _; rfl) : PTv X B G O e c := pt_v h he
/-- x in (a, b, ..): scalars -/
def flatD : D → Bool
  | .non => true
  | .bl _ => true
  | .int _ => true
  | .str _ => true
  | _ => false
def eqF : D → D → Bool
  | .non, .non => true
  | .bl a, .bl b => a == b
  | .bl a, .int b => (if a then 1 else 0) == b
  | .int a, .bl b => a == (if b then 1 else 0)
  | .int a, .int b => a == b
  | .str a, .str b => a == b
  | _, _ => false
theorem flat_rep {K : PySem.W.Frag} {F : Hp} {x : V} {d : D} (r : Rep K F x d) (h : flatD d = true) : flatV x = true := by
  cases r <;> first | rfl | cases h
theorem eqF_rep {K : PySem.W.Frag} {F : Hp} {x y : V} {d e : D} (r : Rep K F x d) (q : Rep K F y e) (h : flatD d = true) (h2 : flatD e = true) : eqV x y = eqF d e := by
  cases r <;> cases q <;> first | rfl | cases h | cases h2
theorem flats_rep {K : PySem.W.Frag} {F : Hp} {y : V} {e : D} (q : Rep K F y e) (h2 : flatD e = true) : ∀ {xs : List V} {ds : List D}, Reps K F xs ds → ds.all flatD = true → xs.all flatV = true ∧ inV y xs = ds.any fun d => eqF d e
  | _, _, .nil, _ => ⟨rfl, rfl⟩
  | _, _, .cons r t, h => by
    rw [List.all_cons, Bool.and_eq_true] at h
    obtain ⟨t1, t2⟩ := flats_rep q h2 t h.2
    refine ⟨by rw [List.all_cons, flat_rep r h.1, t1]; rfl, ?_⟩
    unfold inV at t2 ⊢
    rw [List.any_cons, List.any_cons, t2, eqF_rep r q h.1 h2]
def dIn (f : Bool → Bool) : DR2 := fun x y O Φ => ∃ ds, Items O y ds ∧ flatD x = true ∧ ds.all flatD = true ∧ Φ (.bl (f (ds.any fun d => eqF d x))) O
theorem dop_in : DOp X (rIn X.K false) (dIn id) := fun B G O F σ H x y dx dy Φ S rx ry h Q k => by
  obtain ⟨ds, it, h1, h2, p⟩ := h
  obtain ⟨a, vs, rfl, rs, hq⟩ := items_ok S ry it
  obtain ⟨q1, q2⟩ := flats_rep rx h1 rs h2
  refine ⟨a, vs, rfl, hq, flat_rep rx h1, q1, ?_⟩
  rw [if_neg Bool.false_ne_true]
  rw [q2]
  exact k _ F H _ O S (Same.refl _) (.bl _) p
theorem dop_nin : DOp X (rIn X.K true) (dIn not) := fun B G O F σ H x y dx dy Φ S rx ry h Q k => by
  obtain ⟨ds, it, h1, h2, p⟩ := h
  obtain ⟨a, vs, rfl, rs, hq⟩ := items_ok S ry it
  obtain ⟨q1, q2⟩ := flats_rep rx h1 rs h2
  refine ⟨a, vs, rfl, hq, flat_rep rx h1, q1, ?_⟩
  rw [if_pos rfl]
  rw [q2]
  exact k _ F H _ O S (Same.refl _) (.bl _) p
theorem dIn_mono {f : Bool → Bool} {x y : D} (O : Own) (Φ Ψ : D → Own → Prop) (k : ∀ d O, Φ d O → Ψ d O) : dIn f x y O Φ → dIn f x y O Ψ := fun ⟨ds, a, b, c, z⟩ => ⟨ds, a, b, c, k _ _ z⟩
theorem pt_in (ha : PEv X B G O a d1) (hb : PEv X B G O b d2) (it : Items O d2 ds) (f1 : flatD d1 = true) (f2 : ds.all flatD = true) (hm : behindInMarks .In b = false := by rfl) : PTv X B G O (.Compare a [.In] [b] pos) (ds.any fun d => eqF d d1) :=
  ptv_cmp op_in_seq dop_in hm ha hb ⟨ds, it, f1, f2, rfl, rfl⟩ dIn_mono
theorem pv_in (ha : PEv X B G O a d1) (hb : PEv X B G O b d2) (it : Items O d2 ds) (f1 : flatD d1 = true) (f2 : ds.all flatD = true) (hm : behindInMarks .In b = false := by rfl) : PEv X B G O (.Compare a [.In] [b] pos) (.bl (ds.any fun d => eqF d d1)) :=
  pv_cmp op_in_seq dop_in hm ha hb ⟨ds, it, f1, f2, rfl, rfl⟩
theorem pt_nin (ha : PEv X B G O a d1) (hb : PEv X B G O b d2) (it : Items O d2 ds) (f1 : flatD d1 = true) (f2 : ds.all flatD = true) (hm : behindInMarks .NotIn b = false := by rfl) : PTv X B G O (.Compare a [.NotIn] [b] pos) (!ds.any fun d => eqF d d1) :=
  ptv_cmp op_notIn_seq dop_nin hm ha hb ⟨ds, it, f1, f2, rfl, rfl⟩ dIn_mono
/-! calls that change nothing -/
variable {x : Str} {k : Nat} {sp : DSp}
theorem pv_call {v : D} (C : Cxt M X N sc vb lb gb) (f : GFn M x k sp) (hr : Room k X.A) (hg : gb x = true) (ha : PAv X B G O (e :: es) ds) (h : ∀ Φ Ψ, Φ v O → sp ds O Φ Ψ)
    (he : starEach (e :: es) X.env = (false, eval e X.env) :: starEach es X.env := by exact star_cons rfl) (hpl : (backTo pos (starEach es X.env)).any (·.1) = false := by rfl) : PEv X B G O (.Call (.Name x p) (e :: es) [] pos) v :=
  we_call C f hr takes_no hg (wa_pv ha ⟨O, [], by rw [List.append_nil], h _ _ ⟨rfl, List.append_nil O⟩⟩) he hpl
theorem pv_call' {v : D} (C : Cxt M X N sc vb lb gb) (f : GFn M x k sp) (hr : Room k X.A) (hg : gb x = true) (ha : PAv X B G O (e :: es) ds) (h : ∀ Φ Ψ, Φ v [] → sp ds [] Φ Ψ)
    (he : starEach (e :: es) X.env = (false, eval e X.env) :: starEach es X.env := by exact star_cons rfl) (hpl : (backTo pos (starEach es X.env)).any (·.1) = false := by rfl) : PEv X B G O (.Call (.Name x p) (e :: es) [] pos) v :=
  we_call C f hr takes_no hg (wa_pv ha ⟨[], O, List.Perm.refl _, h _ _ ⟨rfl, rfl⟩⟩) he hpl
end
end Dl

set_option Elab.async false
set_option linter.all false
set_option maxRecDepth 100000
set_option maxHeartbeats 2000000
/-! D11: all([..]), zip of data, slices. -/
namespace Dl
open PySem PySem.Spec PyProof.Rows L2
theorem zipD_map {α β : Type} (f : α → D) (g : β → D) (xs : List α) (ys : List β) : zipD (xs.map f) (ys.map g) = (xs.zip ys).map fun p => .tup [f p.1, g p.2] := by
  unfold zipD
  induction xs generalizing ys with
  | nil => rfl
  | cons x r ih =>
    cases ys with
    | nil => rfl
    | cons y t =>
      rw [List.map_cons, List.map_cons, List.zipWith_cons_cons, List.zip_cons_cons, List.map_cons, ih]
theorem cut_from {xs : List D} {j : Nat} : cutD xs (some (j : Int)) none = xs.drop j := by
  unfold cutD
  by_cases h : j ≤ xs.length
  · have e : HT.sIx xs.length 0 (some (j : Int)) = j := by
      rw [HT.sIx_nat]
      omega
    have e2 : HT.sIx xs.length xs.length none = xs.length := rfl
    rw [e, e2, List.take_of_length_le (by rw [List.length_drop]; exact Nat.le_refl _)]
  · have e : HT.sIx xs.length 0 (some (j : Int)) = xs.length := by
      rw [HT.sIx_nat]
      omega
    rw [e, List.drop_eq_nil_of_le (Nat.le_refl _), List.drop_eq_nil_of_le (by omega), List.take_nil]
section
variable {M : Mach} {X : Cx} {N : List Str} {sc : Scope} {vb lb gb : Str → Bool} {B : Bs} {G : Sl} {O : Own} {e a b elt : Expr} {es : List Expr} {pos p : Pos} {d d1 d2 : D} {ds : List D} {E : EndsD}
theorem pv_allLcA {α : Type} {xs : List α} {enc : α → D} {f : α → Bool} {lk : Own} {scope : Scope} {own : List (Str × Nat)} {tg iter : Expr} {ifs : List Expr} {lpos : Pos} (C : Cxt M X N sc vb lb gb) (hm : M.mg "all" = none) (hg : gb "all" = true) (hb : blkC N sc scope own = true)
    (hi : WIv X B G O tg iter (xs.map enc) lk) (hk : ∀ p ∈ lk, p ∈ O) (hl : xs.length ≤ 1000000) (ht : ∀ x ∈ xs, LcPure M X N sc scope G (own.map (·.2)) O tg ifs elt (enc x) true (.bl (f x))) (hs : ∀ x, foldedSetIterable iter X.env x = pure x := by intro _; rfl) :
    PEv X B G O (.Call (.Name "all" p) [.ListComp elt [⟨tg, iter, ifs, 0⟩] scope lpos] [] pos) (.bl (xs.all f)) :=
  (pv_all C (pv_frz (pn_lcA (f := fun x => .bl (f x)) C hb hi hk hl ht hs)) (by
    have : xs.map (fun x => D.bl (f x)) = (xs.map f).map D.bl := by rw [List.map_map]; rfl
    rw [this]
    exact .lst) hm hg).to (by rw [List.all_map] <;> rfl)
end
end Dl

set_option Elab.async false
set_option linter.all false
set_option maxRecDepth 100000
set_option maxHeartbeats 2000000
/-! D12: names of types. -/
namespace Dl
open PySem PySem.Spec PyProof.Rows L2
theorem kt_NoneType_int : kitB "NoneType" "int" = some false := by decide +kernel
theorem kt_NoneType_bool : kitB "NoneType" "bool" = some false := by decide +kernel
theorem kt_NoneType_str : kitB "NoneType" "str" = some false := by decide +kernel
theorem kt_NoneType_tuple : kitB "NoneType" "tuple" = some false := by decide +kernel
theorem kt_NoneType_list : kitB "NoneType" "list" = some false := by decide +kernel
theorem kt_bool_int : kitB "bool" "int" = some true := by decide +kernel
theorem kt_bool_bool : kitB "bool" "bool" = some true := by decide +kernel
theorem kt_bool_str : kitB "bool" "str" = some false := by decide +kernel
theorem kt_bool_tuple : kitB "bool" "tuple" = some false := by decide +kernel
theorem kt_bool_list : kitB "bool" "list" = some false := by decide +kernel
theorem kt_int_int : kitB "int" "int" = some true := by decide +kernel
theorem kt_int_bool : kitB "int" "bool" = some false := by decide +kernel
theorem kt_int_str : kitB "int" "str" = some false := by decide +kernel
theorem kt_int_tuple : kitB "int" "tuple" = some false := by decide +kernel
theorem kt_int_list : kitB "int" "list" = some false := by decide +kernel
theorem kt_str_int : kitB "str" "int" = some false := by decide +kernel
theorem kt_str_bool : kitB "str" "bool" = some false := by decide +kernel
theorem kt_str_str : kitB "str" "str" = some true := by decide +kernel
theorem kt_str_tuple : kitB "str" "tuple" = some false := by decide +kernel
theorem kt_str_list : kitB "str" "list" = some false := by decide +kernel
theorem kt_tuple_int : kitB "tuple" "int" = some false := by decide +kernel
theorem kt_tuple_bool : kitB "tuple" "bool" = some false := by decide +kernel
theorem kt_tuple_str : kitB "tuple" "str" = some false := by decide +kernel
theorem kt_tuple_tuple : kitB "tuple" "tuple" = some true := by decide +kernel
theorem kt_tuple_list : kitB "tuple" "list" = some false := by decide +kernel
theorem kt_list_int : kitB "list" "int" = some false := by decide +kernel
theorem kt_list_bool : kitB "list" "bool" = some false := by decide +kernel
theorem kt_list_str : kitB "list" "str" = some false := by decide +kernel
theorem kt_list_tuple : kitB "list" "tuple" = some false := by decide +kernel
theorem kt_list_list : kitB "list" "list" = some true := by decide +kernel
section
variable {M : Mach} {X : Cx} {N : List Str} {sc : Scope} {vb lb gb : Str → Bool} {B : Bs} {G : Sl} {O : Own} {pos : Pos}
theorem pv_tInt (C : Cxt M X N sc vb lb gb) (hm : M.mg "int" = none) (hg : gb "int" = true) : PEv X B G O (.Name "int" pos) (.ty "int") := pv_bltnTy C hm rfl hg
theorem pv_tBool (C : Cxt M X N sc vb lb gb) (hm : M.mg "bool" = none) (hg : gb "bool" = true) : PEv X B G O (.Name "bool" pos) (.ty "bool") := pv_bltnTy C hm rfl hg
theorem pv_tStr (C : Cxt M X N sc vb lb gb) (hm : M.mg "str" = none) (hg : gb "str" = true) : PEv X B G O (.Name "str" pos) (.ty "str") := pv_bltnTy C hm rfl hg
theorem pv_tTup (C : Cxt M X N sc vb lb gb) (hm : M.mg "tuple" = none) (hg : gb "tuple" = true) : PEv X B G O (.Name "tuple" pos) (.ty "tuple") := pv_bltnTy C hm rfl hg
theorem pv_tLst (C : Cxt M X N sc vb lb gb) (hm : M.mg "list" = none) (hg : gb "list" = true) : PEv X B G O (.Name "list" pos) (.ty "list") := pv_bltnTy C hm rfl hg
end
end Dl

set_option Elab.async false
set_option linter.all false
set_option maxRecDepth 100000
set_option maxHeartbeats 2000000
/-! D13: -x, the last item, y = [..] kept whole. -/
namespace Dl
open PySem PySem.Spec PyProof.Rows L2
theorem atLast {ds : List D} {y : D} (h : ds.getLast? = some y) : atI ds (-1) = some y := by
  cases ds with
  | nil => cases h
  | cons x r =>
    have e : ixN (x :: r).length (-1) = some r.length := by
      unfold ixN
      rw [if_neg (by omega), if_pos (by rw [List.length_cons]; omega)]
      rw [List.length_cons]
      exact congrArg some (by omega)
    unfold atI
    rw [e]
    rw [List.getLast?_eq_getElem?] at h
    exact h
theorem ix2 {x y z : D} {r : List D} : ixN (x :: y :: z :: r).length 2 = some 2 := by
  unfold ixN
  rw [if_pos (by omega), if_pos (by rw [List.length_cons, List.length_cons, List.length_cons]; omega)]
  rfl
theorem ixLast {x : D} {r : List D} : ixN (x :: r).length (-1) = some r.length := by
  unfold ixN
  rw [if_neg (by omega), if_pos (by rw [List.length_cons]; omega)]
  rw [List.length_cons]
  exact congrArg some (by omega)
theorem ixLast' {ds : List D} (h : ds ≠ []) : ixN ds.length (-1) = some (ds.length - 1) := by
  cases ds with
  | nil => exact absurd rfl h
  | cons x r => exact ixLast
theorem set_last {α : Type} {xs : List α} {x y : α} : (xs ++ [x]).set ((xs ++ [x]).length - 1) y = xs ++ [y] := by
  rw [List.length_append, List.length_singleton, Nat.add_sub_cancel, List.set_append, if_neg (Nat.lt_irrefl _), Nat.sub_self] <;> rfl
section
variable {M : Mach} {X : Cx} {N : List Str} {sc : Scope} {vb lb gb : Str → Bool} {B : Bs} {G : Sl} {O : Own} {e a b elt : Expr} {es : List Expr} {pos p : Pos} {d d1 d2 : D} {ds : List D} {E : EndsD}
theorem PWv.to {c c' : Bool} (h : PWv X B G O e c) (k : c = c') : PWv X B G O e c' := k ▸ h
theorem pv_neg {i : Int} (h : PEv X B G O a (.int i)) : PEv X B G O (.UnaryOp .USub a pos) (.int (-i)) := fun F σ H S Q k => sem (pe_un un_neg pe_sem) (h F σ H S _ fun v F1 H1 d O1 S1 e1 r1 p1 => by
  obtain ⟨rfl, rfl⟩ := p1
  cases r1
  exact ⟨i, rfl, k _ F1 H1 _ O1 S1 e1 (.int _) ⟨rfl, rfl⟩⟩)
theorem lc_pure {α : Type} {xs : List α} {enc : α → D} {c : α → Bool} {f : α → D} {lk : Own} {scope : Scope} {own : List (Str × Nat)} {tg iter : Expr} {ifs : List Expr} {Φ : List D → Own → Prop}
    (hi : WIv X B G O tg iter (xs.map enc) lk) (hk : ∀ p ∈ lk, p ∈ O) (hl : xs.length ≤ 1000000) (ht : ∀ x ∈ xs, LcPure M X N sc scope G (own.map (·.2)) O tg ifs elt (enc x) (c x) (f x)) (q : Φ ((xs.filter c).map f) O) :
    Lc M X N sc scope B G O (own.map (·.2)) tg iter ifs elt Φ := wi_v hi ⟨fun i acc O' => O' = O ∧ acc = ((xs.take i).filter c).map f, ⟨rfl, rfl⟩, fun i acc O' _ z p hp => by rw [z.1]; exact hk p hp, fun i d acc O' hd z => by
    obtain ⟨rfl, rfl⟩ := z
    rw [List.getElem?_map] at hd
    cases e : xs[i]? with
    | none => rw [e] at hd; cases hd
    | some x =>
      rw [e] at hd
      have hd' : enc x = d := Option.some.inj hd
      subst hd'
      have tk : xs.take (i + 1) = xs.take i ++ [x] := by rw [List.take_add_one, e] <;> rfl
      have hlen : (((xs.take i).filter c).map f).length ≤ i := by
        rw [List.length_map]
        exact Nat.le_trans (List.length_filter_le _ _) (by rw [List.length_take]; exact Nat.min_le_left _ _)
      have hi' : i < xs.length := (List.getElem?_eq_some_iff.mp e).1
      refine (ht x (List.mem_of_getElem? e)).turn (fun hc => ⟨by omega, rfl, ?_⟩) (fun hc => ⟨rfl, ?_⟩)
      · rw [tk, List.filter_append, List.map_append, List.filter_cons, if_pos hc] <;> rfl
      · rw [tk, List.filter_append, List.map_append, List.filter_cons, if_neg (by rw [hc]; decide), List.filter_nil, List.map_nil, List.append_nil], fun acc O' z => by
    obtain ⟨rfl, rfl⟩ := z
    rw [List.length_map, List.take_length]
    exact q⟩
/-- y = [..], pure, on one line: y's list is owned -/
theorem ws_setLcP {α : Type} {xs : List α} {enc : α → D} {c : α → Bool} {f : α → D} {lk : Own} {y : Str} {i : Nat} {g : D → Sl} {py spos : Pos} {scope : Scope} {own : List (Str × Nat)} {tg iter : Expr} {ifs : List Expr} (C : Cxt M X N sc vb lb gb) (hy : SetAt N G y i g) (hyl : sc.names.lookup y = some .local) (hb : blkC N sc scope own = true)
    (hi : WIv X B G O tg iter (xs.map enc) lk) (hk : ∀ p ∈ lk, p ∈ O) (hlen : xs.length ≤ 1000000) (ht : ∀ x ∈ xs, LcPure M X N sc scope G (own.map (·.2)) O tg ifs elt (enc x) (c x) (f x)) (q : ∀ p, E.nx (g (.obj p)) ((p, .lst ((xs.filter c).map f)) :: O))
    (hl : (py.line == pos.line) = true := by rfl) (hn : (scope.names.any fun (n, k) => n == y && (k == .local || k == .cell)) = false := by rfl) (hs : ∀ x, foldedSetIterable iter X.env x = pure x := by intro _; rfl) :
    WS X B G O (.Assign [.Name y py] (.ListComp elt [⟨tg, iter, ifs, 0⟩] scope pos) spos) E := ws_setLc (Φ := fun _ _ => True) C hy hyl hl hn hb (lc_pure (Φ := fun ds O' => ∀ p, E.nx (g (.obj p)) ((p, .lst ds) :: O')) hi hk hlen ht q) hs
end
end Dl

set_option Elab.async false
set_option linter.all false
set_option maxRecDepth 100000
set_option maxHeartbeats 2000000
/-! D14: o[i], x = a, b; sum of what a call gives. -/
namespace Dl
open PySem PySem.Spec PyProof.Rows L2
theorem swapN {env : Env} {y : Str} {o i a b : Expr} {ps py pt pt2 : Pos} {kt k2} (hst : ([a, b].any fun | .Starred .. => true | _ => false) = false) : swappedStores [.Tuple [.Subscript o i ps, .Name y py] kt pt] (.Tuple [a, b] k2 pt2) env = pure none := by
  unfold swappedStores
  simp only [List.filterMap_cons, List.filterMap_nil]
  repeat' split
  all_goals first | rfl | (exfalso; simp_all)
section
variable {M : Mach} {X : Cx} {N : List Str} {sc : Scope} {vb lb gb : Str → Bool} {B : Bs} {G : Sl} {O : Own} {e a b elt : Expr} {es : List Expr} {pos p : Pos} {d d1 d2 : D} {ds : List D} {E : EndsD}
theorem we_sum {Φ : D → Own → Prop} (C : Cxt M X N sc vb lb gb) (hm : M.mg "sum" = none) (hg : gb "sum" = true) (h : WE X B G O a fun d O1 => ∃ ns : List Int, ItemsL O1 d (ns.map D.int) ∧ Φ (.int ns.sum) O1) (sa : Plain1 a := by exact fun _ _ => star_cons rfl) : WE X B G O (.Call (.Name "sum" p) [a] [] pos) Φ :=
  we_callB (R := fun xs O Φ => ∃ (d : D) (ns : List Int), xs = [d] ∧ ItemsL O d (ns.map D.int) ∧ Φ (.int ns.sum) O) C (cr_sum C.calm) (fun B G O F σ H xs ds Φ S r h Q k => by
    obtain ⟨d, ns, rfl, it, q⟩ := h
    obtain ⟨v, rfl, rv⟩ := reps1 r
    obtain ⟨a, vs, rfl, rs, hq⟩ := itemsL_ok S rv it
    rw [reps_ints rs] at hq
    exact ⟨a, ns, rfl, hq, k _ F H _ O S (Same.refl _) (.int _) q⟩) hm hg (by decide +kernel) (wa_cons (h.mono fun d O1 z => wa_nil (by
      obtain ⟨ns, it, q⟩ := z
      exact ⟨d, ns, rfl, it, q⟩)) (sa _ _)) (he := sa _ _)
theorem lc_of {α : Type} {enc : α → D} {c : α → Bool} {f : α → D} {scope : Scope} {own : List (Str × Nat)} {tg iter : Expr} {ifs : List Expr} {Φ : List D → Own → Prop}
    (h : WI X B G O tg iter fun ds lk O1 => ∃ xs : List α, ds = xs.map enc ∧ (∀ p ∈ lk, p ∈ O1) ∧ xs.length ≤ 1000000 ∧ (∀ x ∈ xs, LcPure M X N sc scope G (own.map (·.2)) O1 tg ifs elt (enc x) (c x) (f x)) ∧ Φ ((xs.filter c).map f) O1) :
    Lc M X N sc scope B G O (own.map (·.2)) tg iter ifs elt Φ := h.mono fun ds lk O1 z => by
  obtain ⟨xs, rfl, hk, hl, ht, q⟩ := z
  refine ⟨fun i acc O' => O' = O1 ∧ acc = ((xs.take i).filter c).map f, ⟨rfl, rfl⟩, fun i acc O' _ z p hp => by rw [z.1]; exact hk p hp, fun i d acc O' hd z => ?_, fun acc O' z => ?_⟩
  · obtain ⟨rfl, rfl⟩ := z
    rw [List.getElem?_map] at hd
    cases e : xs[i]? with
    | none => rw [e] at hd; cases hd
    | some x =>
      rw [e] at hd
      have hd' : enc x = d := Option.some.inj hd
      subst hd'
      have tk : xs.take (i + 1) = xs.take i ++ [x] := by rw [List.take_add_one, e] <;> rfl
      have hlen : (((xs.take i).filter c).map f).length ≤ i := by
        rw [List.length_map]
        exact Nat.le_trans (List.length_filter_le _ _) (by rw [List.length_take]; exact Nat.min_le_left _ _)
      have hi' : i < xs.length := (List.getElem?_eq_some_iff.mp e).1
      refine (ht x (List.mem_of_getElem? e)).turn (fun hc => ⟨by omega, rfl, ?_⟩) (fun hc => ⟨rfl, ?_⟩)
      · rw [tk, List.filter_append, List.map_append, List.filter_cons, if_pos hc] <;> rfl
      · rw [tk, List.filter_append, List.map_append, List.filter_cons, if_neg (by rw [hc]; decide), List.filter_nil, List.map_nil, List.append_nil]
  · obtain ⟨rfl, rfl⟩ := z
    rw [List.length_map, List.take_length]
    exact q
theorem ws_permd {st : Stmt} (h : WS X B G O st (E.to fun G' O' => ∃ O'', O'.Perm O'' ∧ E.nx G' O'')) : WS X B G O st E := fun F σ H S D' k =>
  h F σ H S D' ⟨fun G' O' F' σ' H' S' e' p => by
    obtain ⟨O'', hp, p⟩ := p
    exact k.nx G' O'' F' σ' H' (S'.perm hp) e' p, k.rt, k.bk, k.ct⟩
/-- a, b = .. where one target is an item -/
theorem ws_asgN {y : Str} {o i a b : Expr} {ps py pt pt2 : Pos} {kt k2} {vs : Nat → Prop} (h : WE X B G O (.Tuple [a, b] k2 pt2) fun d O' => WG X B G O' (.Tuple [.Subscript o i ps, .Name y py] kt pt) vs d E.nx) (hst : ([a, b].any fun | .Starred .. => true | _ => false) = false := by rfl)
    (hs : swapsWithSole [.Tuple [.Subscript o i ps, .Name y py] kt pt] (.Tuple [a, b] k2 pt2) pos.line X.env = pure false := by rfl) : WS X B G O (.Assign [.Tuple [.Subscript o i ps, .Name y py] kt pt] (.Tuple [a, b] k2 pt2) pos) E := ws_asg h hs (swapN hst) rfl
end
theorem oset_at {α : Type} {f : α → Addr × OV} {xs : List α} {x : α} {ov : OV} {O : Own} : OSet (xs.map f ++ f x :: O) (f x).1 ov (xs.map f ++ ((f x).1, ov) :: O) := by
  induction xs with
  | nil => exact .z
  | cons z r ih => exact .s ih
end Dl

set_option Elab.async false
set_option linter.all false
set_option maxRecDepth 100000
set_option maxHeartbeats 2000000
/-! D15: min of what calls give. -/
namespace Dl
open PySem PySem.Spec PyProof.Rows L2
section
variable {M : Mach} {X : Cx} {N : List Str} {sc : Scope} {vb lb gb : Str → Bool} {B : Bs} {G : Sl} {O : Own} {e a b elt : Expr} {es : List Expr} {pos p : Pos} {d d1 d2 : D} {ds : List D} {E : EndsD}
theorem we_min2 {Φ : D → Own → Prop} (C : Cxt M X N sc vb lb gb) (hm : M.mg "min" = none) (hg : gb "min" = true) (h : WA X B G O [a, b] fun ds O' => ∃ i j, ds = [.int i, .int j] ∧ Φ (.int (if j < i then j else i)) O') (sa : Plain1 a := by exact fun _ _ => star_cons rfl) (sb : Plain1 b := by exact fun _ _ => star_cons rfl) : WE X B G O (.Call (.Name "min" p) [a, b] [] pos) Φ :=
  we_callB (R := fun xs O Φ => ∃ i j, xs = [.int i, .int j] ∧ Φ (.int (if j < i then j else i)) O) C (call_min2 C.calm) (fun B G O F σ H xs ds Φ S r h Q k => by
    obtain ⟨i, j, rfl, q⟩ := h
    obtain ⟨v, w, rfl, rv, rw⟩ := reps2 r
    cases rv
    cases rw
    exact ⟨i, j, rfl, k _ F H _ O S (Same.refl _) (.int _) q⟩) hm hg (by decide +kernel) h (he := sa _ _) (hpl := plain_any sb)
end
end Dl

set_option Elab.async false
set_option linter.all false
set_option maxRecDepth 100000
set_option maxHeartbeats 4000000
/-! D16: sorted(set(xs)), xs a list of ints. -/
namespace Dl
open PySem PySem.Spec PyProof.Rows L2
section
variable {P : Program} {w : World} {A : Around} {E : Value → Shared → Prop} {s : Shared}
abbrev emptySet (w : World) : Obj := { cls := .type "set", dict := none, data := .set #[] 0 (.fresh 0 0 (!w.params.followText "set-order")) }
/-- what the initialiser of a set leaves -/
def SetDone (w : World) (s : Shared) (ns : List Int) (r : Value) (s₂ : Shared) : Prop := r = .none ∧ ∃ h' tk c, s₂ = { s with heap := h', toks := tk } ∧ SetR w h' s.heap.objs.size (fun j => decide (j ∈ ns)) c ∧ c ≤ ns.length ∧ (∀ b o, s.heap.get? b = some o → h'.get? b = some o)
theorem call_set_lstI {l : Addr} {items : Array Value} (ns : List Int) {Q : Value → Shared → Prop} (hh : A.handled = none) (hl : s.heap.IsList l items) (hit : IntsAre items.toList ns) (hb : ns.length + 1 < scanBound)
    (h : ∀ (h' : Heap) (tk c : Nat), SetR w h' s.heap.objs.size (fun j => decide (j ∈ ns)) c → c ≤ ns.length → (∀ b o, s.heap.get? b = some o → h'.get? b = some o) → Q (.ref s.heap.objs.size) { s with heap := h', toks := tk }) :
    wpAny (model P w) A (call (.type "set") [.ref l]) Q E s := by
  have hisz : items.size = ns.length := by
    have q := IntsAre.length hit
    rw [Array.length_toList] at q
    exact q
  have hval : ∀ (i : Nat) (v : Value), items[i]? = some v → ∃ k t, ns[i]? = some k ∧ v = .int k t := fun i v hv => by
    have hi : i < ns.length := by rw [← hisz]; exact (Array.getElem?_eq_some_iff.mp hv).1
    obtain ⟨t, e⟩ := PyProof.Rows.IntsAre.int_at hit i v (by rw [Array.getElem?_toList]; exact hv)
    refine ⟨ns[i], t, List.getElem?_eq_getElem hi, ?_⟩
    rw [e, List.getD_eq_getElem?_getD, List.getElem?_eq_getElem hi] <;> rfl
  obtain ⟨c, tl, hmro⟩ := F.called_set.mro
  have hmade := F.called_set.made
  have hsub := F.called_set.sub
  have h1 := F.called_set.notType
  have h2 := F.called_set.canCreate
  have hct := F.typeCall_set_1 (.ref l)
  refine wpAny_call (codeAny_of_tree ?_)
  show wpAny _ _ (callAny (.type "set") _) _ _ _
  refine wpAny_pure ⟨Code.quiet_builtin _ (by decide +kernel), codeAny_builtin F.entry_type_call ?_⟩
  rw [Around.under_plain (weight_type_call_type "set" [.ref l] []) rfl]
  repeat (any_goals (first | assumption | wp_step))
  refine codeAny_mono (code_set_led1 (.ref l) (E := E) (Q₁ := fun obj s₁ => obj = .ref s.heap.objs.size ∧ s₁ = { s with heap := s.heap.push (emptySet w) }) ⟨rfl, rfl⟩) fun r s₁ hr => ?_
  cases r with
  | error e => exact hr
  | ok fl =>
  cases fl with
  | ret obj =>
    obtain ⟨rfl, rfl⟩ := hr
    have hS : (s.heap.push (emptySet w)).get? s.heap.objs.size = some (emptySet w) := Heap.get?_push_size _ rfl
    have hT : Shared.TypeIs { s with heap := s.heap.push (emptySet w) } (.ref s.heap.objs.size) "set" := ⟨_, hS, rfl⟩
    have hli := F.called_set.init.lookup
    have hbi := F.called_set.init.bind (.ref s.heap.objs.size)
    repeat (any_goals (first | assumption | wp_step))
    refine codeAny_mono (codeAny_call_builtin (R := wants (SetDone w s ns) E) F.called_set.init.plain F.entry_set_init (check_set_init_1 hT ?_)) fun r₂ s₂ hr₂ => ?_
    · have hl1 : (s.heap.push (emptySet w)).IsList l items := hl.push _
      obtain ⟨ol, hol, hcl, nl, hdl⟩ := hl
      obtain ⟨ocls, odict, odata, oslots⟩ := ol
      simp only at hcl hdl
      subst hcl; subst hdl
      have hol' : (s.heap.push (emptySet w)).get? l = some { cls := .type "list", dict := odict, data := .seq items nl, slots := oslots } := Heap.get?_push_of_some _ hol
      have hsls := F.sub_list_set
      have hslf := F.sub_list_frozenset
      have hne : (Value.type "list" == Value.type "dict") = false := by decide
      unfold Builtin.«set.__init__» noKeywords Builtin.Frozenset.updateFrom
      generalize hPI : pyIter = PI
      wp_walk
      subst hPI
      refine wpAny_pyIter_list hl1 ?_
      refine wpAny_bind (wpAny_runValue ?_)
      have hlS : l < s.heap.objs.size := Heap.lt_size hol
      have hh3 : A.in1.in1.in1.handled = none := by simp [hh]
      have hneI : l ≠ (s.heap.push (emptySet w)).objs.size := by
        rw [Heap.size_push]; exact Nat.ne_of_lt (Nat.lt_succ_of_lt hlS)
      have hSf : s.heap.objs.size ∉ [(s.heap.push (emptySet w)).objs.size, l] := by
        rw [Heap.size_push]; simp only [List.mem_cons, List.mem_singleton, List.not_mem_nil, or_false, not_or]
        exact ⟨Nat.ne_of_lt (Nat.lt_succ_self _), Nat.ne_of_gt hlS⟩
      refine set_update_ints ((Walks.list hh3 _ l hneI items).toS) s.heap.objs.size hSf ns hisz hb hval (items.size - 0) 0 _ (by omega) (Nat.zero_le _) ⟨⟨_, Heap.get?_push_size _ rfl, rfl, rfl⟩, (hl1.push _)⟩ ⟨0, Nat.le_refl 0, setR_new_at (Heap.get?_push_of_some _ hS)⟩ ?_
      intro s' c' hm hc' hS'
      obtain ⟨h', g2, d', tk', os'⟩ := s'
      have eg : g2 = s.gens := hm.gens
      have ed : d' = s.drawn := hm.drawn
      have eo : os' = s.os := hm.os
      subst eg; subst ed; subst eo
      show wpAny _ _ _ _ _ _
      refine wpAny_pure ?_
      show wpAny _ _ (ret Value.none) _ _ _
      rw [hisz] at hc'
      refine wpAny_pure ⟨rfl, h', tk', c', rfl, hS', hc', fun b o e => ?_⟩
      have hb0 : b < s.heap.objs.size := Heap.lt_size e
      have hb2 : b ≠ (s.heap.push (emptySet w)).objs.size := by
        rw [Heap.size_push]; exact Nat.ne_of_lt (Nat.lt_succ_of_lt hb0)
      exact hm.heap b o (by simp only [List.mem_cons, List.mem_singleton, List.not_mem_nil, or_false, not_or]; exact ⟨Nat.ne_of_lt hb0, hb2⟩) (Heap.get?_push_of_some _ (Heap.get?_push_of_some _ e))
    · cases r₂ with
      | error e => exact hr₂
      | ok fl₂ =>
        cases fl₂ with
        | ret r =>
          obtain ⟨rfl, h', tk, c', rfl, hS', hc', hk'⟩ := hr₂
          repeat (any_goals (first | assumption | wp_step))
          exact h _ _ _ hS' hc' hk'
        | _ => exact hr₂.elim
  | _ => exact hr.elim
end
end Dl

set_option Elab.async false
set_option linter.all false
set_option maxRecDepth 100000
set_option maxHeartbeats 2000000
/-! D17: sorted(set(xs)) over data. -/
namespace Dl
open PySem PySem.Spec PyProof.Rows L2
section
variable {X : Cx}
def tSortedSetI (K : PySem.W.Frag) (ta : TE) : TE := fun σ H Q => ta σ H fun x H1 => ∃ (l : Addr) (ns : List Int), x = .ref l ∧ SqL K H1 l (ns.map V.int) ∧ ns.length < 64 ∧
  ∀ (ms : List Int) (p : Addr), ms.Pairwise (· < ·) → (∀ k : Int, k ∈ ms ↔ k ∈ ns) → H1 p = none → Q (.ref p) (upd H1 p (.lst (ms.map V.int)))
theorem pe_sortedSetI {a : Expr} {ta : TE} {p p2 q pos : Pos} (hg : Gl X "sorted") (hm : X.mg "sorted" = none) (hg2 : Gl X "set") (hm2 : X.mg "set" = none) (ha : PE X a ta) (hc : X.calm = true)
    (na : starEach [a] X.env = (false, eval a X.env) :: starEach [] X.env := by rfl) : PE X (.Call (.Name "sorted" p) [.Call (.Name "set" p2) [a] [] q] [] pos) (tSortedSetI X.K ta) := by
  refine ⟨fun pins s σ H Q I h => ?_⟩
  refine Call_ (ld_blt I hg hm (show bootBuiltins "sorted" = some (.builtin "sorted") by decide +kernel) ?_)
  refine PyProof.Rows.callWith_builtin1 (PyProof.Rows.args_cons ?_ rfl) rfl rfl
  refine Call_ (ld_blt I hg2 hm2 boot_set ?_)
  refine PyProof.Rows.callWith_type1 (PyProof.Rows.args_cons (thn (ha.run pins s σ H _ I h) fun v s1 ⟨x, H1, I1, r1, q1⟩ => PyProof.Rows.args_nil ?_) na) na rfl
  obtain ⟨l, ns, rfl, hq, h64, q1⟩ := q1
  cases r1
  obtain ⟨its, r, pl, hz⟩ := I1.list hq
  refine call_set_lstI ns (I1.ok.hd hc) pl.isList (by simpa using RZ.intsAre_vals r) (by unfold scanBound; omega) fun h' tk c R hcn k1 => ?_
  refine PyProof.Rows.args_nil ?_
  have I2 : Inv X pins σ H1 { s1 with heap := h', toks := tk } := I1.kept fun b o e => k1 b o e
  refine sorted_set R (I2.ok.hd hc) (by omega) fun s' p out c ms k g o hp hg hi hs hm hl => ?_
  have hlen : (ms.map V.int).length ≤ sizeLine := by rw [List.length_map, hl, sizeLine_eq]; omega
  have hn : H1 p = none := I2.hok.fresh hp
  have J : Inv X pins σ (upd H1 p (.lst (ms.map V.int))) { ({ s1 with heap := h', toks := tk } : Shared) with heap := s'.heap, gens := s'.gens, drawn := s'.drawn, toks := s'.toks } :=
    I2.call (ch := []) (Un.laid k hp hn) (I2.hok.laid k hp ⟨hlen, out.toList, c, vals_of_ints hi, hg⟩) (by rw [g]; exact I2.bare) (fun _ z => nomatch z)
  have e : s' = { ({ s1 with heap := h', toks := tk } : Shared) with heap := s'.heap, gens := s'.gens, drawn := s'.drawn, toks := s'.toks } := by
    cases s'
    cases s1
    cases o
    rfl
  rw [e]
  exact ⟨.ref p, _, J, rfl, q1 ms p hs (fun k => by rw [hm k]; exact decide_eq_true_iff) hn⟩
end
section
variable {M : Mach} {X : Cx} {N : List Str} {sc : Scope} {vb lb gb : Str → Bool} {B : Bs} {G : Sl} {O : Own} {a : Expr} {pos p p2 q : Pos} {d1 : D}
theorem wn_sortedSet {ns : List Int} {Φ : List D → Own → Prop} (C : Cxt M X N sc vb lb gb) (hm : M.mg "sorted" = none) (hg : gb "sorted" = true) (hm2 : M.mg "set" = none) (hg2 : gb "set" = true) (ha : PEv X B G O a d1) (it : ItemsL O d1 (ns.map D.int)) (h64 : ns.length < 64)
    (h : ∀ ms : List Int, ms.Pairwise (· < ·) → (∀ k : Int, k ∈ ms ↔ k ∈ ns) → Φ (ms.map D.int) O) (sa : Plain1 a := by exact fun _ _ => star_cons rfl) : WN X B G O (.Call (.Name "sorted" p) [.Call (.Name "set" p2) [a] [] q] [] pos) Φ := fun F σ H S Q k =>
  sem (pe_sortedSetI (C.gl _ hg).1 (by rw [C.mg]; exact hm) (C.gl _ hg2).1 (by rw [C.mg]; exact hm2) pe_sem C.calm (sa _ _)) (ha F σ H S _ fun v F1 H1 d O1 S1 e1 r1 p1 => by
    obtain ⟨rfl, rfl⟩ := p1
    obtain ⟨l, vs, rfl, rs, hq⟩ := itemsL_ok S1 r1 it
    rw [reps_ints rs] at hq
    refine ⟨l, ns, rfl, hq, h64, fun ms p h1 h2 hp => k p (ms.map D.int) F1 _ _ (S1.allocOwn hp (ov := .lst (ms.map D.int)) ⟨ms.map V.int, upd_same, ints_reps _⟩) e1 (h ms h1 h2)⟩)
end
end Dl

set_option Elab.async false
set_option linter.all false
set_option maxRecDepth 100000
set_option maxHeartbeats 2000000
/-! D18: calls with one keyword that change nothing; xs[:j]. -/
namespace Dl
open PySem PySem.Spec PyProof.Rows L2
theorem cut_to {xs : List D} {j : Nat} : cutD xs none (some (j : Int)) = xs.take j := by
  unfold cutD
  have e : HT.sIx xs.length 0 none = 0 := rfl
  rw [e, HT.sIx_nat, List.drop_zero, Nat.sub_zero]
  by_cases h : j ≤ xs.length
  · rw [Nat.min_eq_left h]
  · rw [Nat.min_eq_right (by omega), List.take_of_length_le (Nat.le_refl _), List.take_of_length_le (by omega)]
section
variable {M : Mach} {X : Cx} {N : List Str} {sc : Scope} {vb lb gb : Str → Bool} {B : Bs} {G : Sl} {O : Own} {e ke : Expr} {es : List Expr} {pos p kpos : Pos} {ds : List D} {v dk : D} {x nm : Str} {k : Nat} {sp : DSp}
theorem pv_callK (C : Cxt M X N sc vb lb gb) (f : GFnK M x [nm] k sp) (hr : Room k X.A) (hg : gb x = true) (ha : PAv X B G O (e :: es) ds) (hk : PEv X B G O ke dk) (h : ∀ Φ Ψ, Φ v O → sp (ds ++ [dk]) O Φ Ψ)
    (hall : (backToKw pos (keywordEach [⟨some nm, ke, kpos⟩] X.env)).all (·.1.isSome) = true := by rfl) (hks : (backToKw pos (keywordEach [⟨some nm, ke, kpos⟩] X.env)).filterMap (·.1) = [nm] := by rfl)
    (he : starEach (e :: es) X.env = (false, eval e X.env) :: starEach es X.env := by exact star_cons rfl) (hpl : ((backTo pos (starEach (e :: es) X.env)).any (·.1) || (backToKw pos (keywordEach [⟨some nm, ke, kpos⟩] X.env)).any (·.1.isNone)) = false := by rfl) : PEv X B G O (.Call (.Name x p) (e :: es) [⟨some nm, ke, kpos⟩] pos) v :=
  we_callK C f hr takes_no hg (wa_pv ha (wk_cons (we_pv hk (wk_nil ⟨rfl, O, [], by rw [List.append_nil], h _ _ ⟨rfl, List.append_nil O⟩⟩)))) hall hks he hpl
end
end Dl

set_option Elab.async false
set_option linter.all false
set_option maxRecDepth 100000
set_option maxHeartbeats 2000000
/-! D19: dicts of ints: {}, d[k] = v, d.get(k, v), sorted(d.items()). -/
namespace Dl
open PySem PySem.Spec PyProof.Rows L2 L2.DX
/-! ### sorted(d.items()), the keys and the values ints -/
abbrev entK (q : Int × Int) : Key × V := (Sum.inl q.1, V.int q.2)
def rSortItK : List V → Hp → VK → Prop := fun vs H Q => ∃ (p a : Addr) (tb : List (Int × Int)), vs = [.ref p] ∧ H p = some (itemsO p a) ∧ H a = some (.dK (tb.map entK)) ∧
  ∀ (H' : Hp) (l : Addr) (ps : List (Addr × Int × Int)), (∀ b o, H b = some o → H' b = some o) → H l = none → (∀ z ∈ ps, H z.1 = none ∧ z.1 ≠ l) → (ps.map (·.2)).Perm tb → (ps.map (·.2)).Pairwise (fun e f => SrtO.lexB f e = false) →
    H' l = some (.lst (ps.map fun z => V.ref z.1)) → (∀ z ∈ ps, H' z.1 = some (.tup [.int z.2.1, .int z.2.2])) → Q (.ref l) H'
def adr : Value → Addr
  | .ref a => a
  | _ => 0
def prAt (h : Heap) (v : Value) : Int × Int := match h.get? (adr v) with
  | some ⟨_, _, .seq its _, _⟩ => (match its.toList with
    | [.int i _, .int j _] => (i, j)
    | _ => (0, 0))
  | _ => (0, 0)
section
variable {X : Cx}
def rItemsK : V → List V → Hp → VK → Prop := fun x xs H Q => ∃ (a : Addr) (kvs : List (Key × V)), x = .ref a ∧ xs = [] ∧ H a = some (.dK kvs) ∧ ∀ p, H p = none → Q (.ref p) (upd H p (itemsO p a))
theorem mt_itemsK : MtR X "dict.items" rItemsK := by
  intro pins s σ H x xs v us Q I rx rxs h
  obtain ⟨a, kvs, rfl, rfl, ha, q⟩ := h
  cases rx
  cases rxs
  obtain ⟨hz, hs0, vs, kv, hdo⟩ := I.hok a _ ha
  refine call_meetsIn PySem.F.slot_dict_items hdo.typeIs PySem.F.entry_dict_items (PySem.F.args_dict_items_1 _) (meets_dict_items (mixKind X.prog X.w) a hs0) ⟨⟨vs, hdo⟩, ?_⟩
  have hf : H s.heap.objs.size = none := I.hok.fresh (Nat.le_refl _)
  exact ⟨.ref s.heap.objs.size, _, I.laid (t' := s.toks) (fun b u e => Heap.get?_push_of_some _ e) (Nat.le_refl _) (itemsO_ok (Heap.get?_push_size _ rfl)), rfl, q _ hf⟩
theorem cr_sortedItemsK (hc : X.calm = true) : CallR X (.builtin "sorted") rSortItK := by
  intro pins s σ H xs us Q I r h
  obtain ⟨p, a, tb, rfl, hp, ha, q⟩ := h
  obtain rfl := Vals.ref1 r
  have view : s.heap.IsItemsView p a := (show ObjOk X.prog X.w H s.heap p (itemsO p a) from I.hok p _ hp).1
  obtain ⟨hz, hs0, vs, kv, hdo⟩ := I.hok a _ ha
  obtain ⟨oo, es, ep, ho, hx, hdat, _, hps, _⟩ := hdo
  have lk : tb.length = vs.length := by
    have := Paired.length kv
    rw [List.length_map] at this
    exact this
  have lp : es.size = vs.length := hps.length
  have hh : X.A.handled = none := I.ok.hd hc
  rw [List.length_map] at hz
  refine DT.sortedI (es := es) (ep := ep) hh view ⟨oo, ho, hx, hdat⟩ (by omega) fun h' tk as hk hlt hl hG => ?_
  have las : as.length ≤ sizeLine := by omega
  have nd : as.Nodup := List.Pairwise.imp (fun h => Nat.ne_of_lt h) hG.rise
  -- the pairs
  have pr : ∀ (j : Nat) (b : Addr), as[j]? = some b → ∃ (e : Int × Int) (t t2 : Tok), tb[j]? = some e ∧ h'.get? b = some { cls := .type "tuple", data := .seq #[Value.int e.1 t, Value.int e.2 t2] } := by
    intro j b hj
    obtain ⟨en, en1, e3⟩ := hG.pairs j b hj
    have jl : j < vs.length := by have := (List.getElem?_eq_some_iff.mp hj).1; omega
    obtain ⟨⟨k, x⟩, e1⟩ : ∃ q, vs[j]? = some q := ⟨_, List.getElem?_eq_getElem jl⟩
    obtain ⟨e2, exv⟩ := hps.get? (i := j) (by rw [← en1]; simp) e1
    subst exv
    generalize en.key = key at e2 e3
    generalize en.val = x at e1 e3
    obtain ⟨y, y1, y2, y3⟩ := pget kv e1
    rw [List.getElem?_map] at y1
    cases hq : tb[j]? with
    | none => rw [hq] at y1; cases y1
    | some e =>
      rw [hq] at y1
      have ey : entK e = y := Option.some.inj y1
      subst ey
      have y2 : Sum.inl e.1 = k := y2
      subst y2
      rcases keyIs_shape (show keyIs (Sum.inl e.1) key = true from e2) with ⟨i, t, z1, z2⟩ | ⟨i, t, z1, z2⟩
      · obtain ⟨t2, z3⟩ := (show ∃ t2, x = Value.int e.2 t2 from y3)
        injection z1 with z1
        subst z1 z2 z3
        exact ⟨e, t, t2, rfl, e3⟩
      · cases z1
  have hob : (h'.push { cls := .type "list", data := .seq (as.map Value.ref).toArray }).get? h'.objs.size = some (seqObj "list" (as.map Value.ref).toArray 0) := Heap.get?_push_size _ rfl
  have ka : ∀ b o, h'.get? b = some o → (h'.push { cls := .type "list", data := .seq (as.map Value.ref).toArray }).get? b = some o := fun b o e => Heap.get?_push_of_some _ e
  have ne0 : ∀ b o, h'.get? b = some o → b ≠ h'.objs.size := fun b o e => Nat.ne_of_lt (Heap.lt_size e)
  generalize hh2 : h'.push { cls := .type "list", data := .seq (as.map Value.ref).toArray } = h2 at hob ka ⊢
  have kq : ∀ (j : Nat) (b : Addr) (e : Int × Int), as[j]? = some b → tb[j]? = some e → prAt h2 (.ref b) = e := by
    intro j b e h1 h2'
    obtain ⟨e', t, t2, z1, z2⟩ := pr j b h1
    rw [h2'] at z1
    cases z1
    unfold prAt adr
    rw [ka _ _ z2]
  have at_ : ∀ v ∈ as.map Value.ref, ∃ (j : Nat) (b : Addr) (e : Int × Int), v = .ref b ∧ as[j]? = some b ∧ tb[j]? = some e := by
    intro v hv'
    obtain ⟨b, hb, rfl⟩ := List.mem_map.mp hv'
    obtain ⟨j, hj⟩ := List.mem_iff_getElem?.mp hb
    obtain ⟨e, _, _, he, _⟩ := pr j b hj
    exact ⟨j, b, e, rfl, hj, he⟩
  have hmap : (as.map Value.ref).map (prAt h2) = tb := by
    refine List.ext_getElem? fun j => ?_
    rw [List.getElem?_map, List.getElem?_map]
    cases hj : as[j]? with
    | none =>
      have : as.length ≤ j := List.getElem?_eq_none_iff.mp hj
      exact (List.getElem?_eq_none_iff.mpr (by omega)).symm
    | some b =>
      obtain ⟨e, _, _, he, _⟩ := pr j b hj
      rw [he, ← kq j b e hj he]
      rfl
  refine wpAny_call_entry slot_list_sort ⟨_, hob, rfl⟩ entry_list_sort (SrtO.list_sort_ord (SrtO.swo_lex (prAt h2)) hob (by rw [List.length_map]; exact las)
    (fun h2' => SrtO.pairs_sortableO (k := prAt h2) (by omega) (fun v hv => ?_) fun o e => ?_) fun out hs hb => ⟨.none, rfl, ?_⟩) (args_list_sort _)
  · obtain ⟨j, b, e, rfl, hj, he⟩ := at_ v hv
    obtain ⟨e', t, t2, z1, z2⟩ := pr j b hj
    rw [he] at z1
    cases z1
    rw [kq j b e hj he]
    exact ⟨b, _, t, t2, 0, rfl, ka _ _ z2, rfl, rfl⟩
  · have e' : some o = some (seqObj "list" (as.map Value.ref).toArray 0) := e.symm.trans hob
    cases e'
    exact fun c => absurd (Value.type.inj c) (by decide)
  · show EP X pins σ Q (.ref h'.objs.size) { s with heap := sortedHeap h2 h'.objs.size (as.map Value.ref) out.toArray, toks := tk }
    have mem : ∀ v ∈ out, ∃ (j : Nat) (b : Addr) (e : Int × Int), v = .ref b ∧ as[j]? = some b ∧ tb[j]? = some e := fun v hv => at_ v (hb.perm.mem_iff.mp hv)
    have kF : ∀ b o, b ≠ h'.objs.size → h2.get? b = some o → (sortedHeap h2 h'.objs.size (as.map Value.ref) out.toArray).get? b = some o := fun b o hb e => (PyProof.Rows.sortedHeap_old hb (Heap.lt_size e)).trans e
    have kS : ∀ b o, s.heap.get? b = some o → (sortedHeap h2 h'.objs.size (as.map Value.ref) out.toArray).get? b = some o := fun b o e => kF b o (ne0 _ _ (hk b o e)) (ka _ _ (hk b o e))
    obtain ⟨eF, heF⟩ := PyProof.Rows.sortedHeap_at (vs := as.map Value.ref) (out := out.toArray) hob
    have I1 : Inv X pins σ H { s with heap := sortedHeap h2 h'.objs.size (as.map Value.ref) out.toArray, toks := tk } := I.kept (t' := tk) kS
    have hlt : s.heap.objs.size ≤ h'.objs.size := Nat.le_of_lt hlt
    have hn0 : H h'.objs.size = none := I.hok.fresh hlt
    have eout : out.map (fun v => Value.ref (adr v)) = out := by
      conv => rhs; rw [← List.map_id out]
      refine List.map_congr_left fun v hv => ?_
      obtain ⟨_, b, _, rfl, _, _⟩ := mem v hv
      rfl
    have rv : Vals ((out.map fun v => (adr v, prAt h2 v)).map fun z => V.ref z.1) out := by
      rw [List.map_map]
      conv => arg 2; rw [← eout]
      exact vals_maps (fun v : Value => V.ref (adr v)) (fun v => Value.ref (adr v)) out fun _ _ => rfl
    have hlen : ((out.map fun v => (adr v, prAt h2 v)).map fun z => V.ref z.1).length ≤ sizeLine := by
      have e := hb.perm.length_eq
      rw [List.length_map] at e
      rw [List.length_map, List.length_map, e]
      exact las
    have I2 : Inv X pins σ (upd H h'.objs.size (.lst ((out.map fun v => (adr v, prAt h2 v)).map fun z => V.ref z.1))) { s with heap := sortedHeap h2 h'.objs.size (as.map Value.ref) out.toArray, toks := tk } :=
      I1.take (h' := sortedHeap h2 h'.objs.size (as.map Value.ref) out.toArray) (t' := tk) (fun b ob _ e => e) (I.fpOk hlt hn0) ⟨hlen, out, eF, rv, heF⟩
    have low : ∀ b ∈ as, s.heap.objs.size ≤ b := fun b hb => Nat.le_of_lt (hG.above b hb)
    obtain ⟨H2, I3, g, qt⟩ := takeT (P := fun b vs => ∃ (j : Nat) (e : Int × Int), as[j]? = some b ∧ tb[j]? = some e ∧ vs = [.int e.1, .int e.2]) I as _ I2 nd fun b hb => by
      obtain ⟨j, hj⟩ := List.mem_iff_getElem?.mp hb
      obtain ⟨e, t, t2, he, hg⟩ := pr j b hj
      refine ⟨low b hb, ?_, [.int e.1, .int e.2], ⟨j, e, hj, he, rfl⟩, fun H3 => ⟨(by rw [sizeLine_eq]; show 2 ≤ 16777216; omega), [Value.int e.1 t, Value.int e.2 t2], .cons ⟨t, rfl⟩ (.cons ⟨t2, rfl⟩ .nil), ⟨_, kF _ _ (ne0 _ _ hg) (ka _ _ hg), rfl, 0, rfl⟩⟩⟩
      rw [upd_ne (ne0 _ _ hg)]
      exact I.hok.fresh (low b hb)
    have gr : ∀ b o, H b = some o → H2 b = some o := fun b o e => g b o (by rw [upd_ne (ne_of_none e hn0)]; exact e)
    have psm : ∀ z ∈ out.map (fun v => (adr v, prAt h2 v)), ∃ (j : Nat), as[j]? = some z.1 ∧ tb[j]? = some z.2 := fun z hz => by
      obtain ⟨v, hv, rfl⟩ := List.mem_map.mp hz
      obtain ⟨j, b, e, rfl, hj, he⟩ := mem v hv
      exact ⟨j, hj, by rw [he]; exact congrArg some (kq j b e hj he).symm⟩
    refine ⟨.ref h'.objs.size, H2, I3, rfl, q H2 h'.objs.size (out.map fun v => (adr v, prAt h2 v)) gr hn0 (fun z hz => ?_) ?_ ?_ (g _ _ upd_same) fun z hz => ?_⟩
    · obtain ⟨j, hj, _⟩ := psm z hz
      obtain ⟨_, _, _, _, hg⟩ := pr j _ hj
      exact ⟨I.hok.fresh (low _ (List.mem_of_getElem? hj)), ne0 _ _ hg⟩
    · rw [List.map_map]
      have := hb.perm.map (prAt h2)
      rw [hmap] at this
      exact this
    · rw [List.map_map]
      exact List.pairwise_map.mpr hs
    · obtain ⟨j, hj, he⟩ := psm z hz
      obtain ⟨vs, ⟨i, e, i1, i2, ev⟩, hH⟩ := qt z.1 (List.mem_of_getElem? hj)
      have eij : j = i := (List.getElem?_inj (List.getElem?_eq_some_iff.mp hj).1 nd).mp (hj.trans i1.symm)
      subst eij
      rw [he] at i2
      cases i2
      rw [hH, ev]
end
/-! ### dicts of ints, owned -/
abbrev entD (q : Int × Int) : Key × D := (Sum.inl q.1, D.int q.2)
def getI (tb : List (Int × Int)) (k : Int) : Option Int := (tb.find? fun p => decide (p.1 = k)).map (·.2)
def putI (tb : List (Int × Int)) (k v : Int) : List (Int × Int) := if (tb.any fun p => decide (p.1 = k)) = true then tb.map (fun p => if p.1 = k then (p.1, v) else p) else tb ++ [(k, v)]
theorem preps_ints {K : PySem.W.Frag} {F : Hp} : ∀ {tb : List (Int × Int)} {ks : List (Key × V)}, PReps K F ks (tb.map entD) → ks = tb.map entK
  | [], _, .nil => rfl
  | q :: tb, _, .cons h r => by
    rename_i p ps
    obtain ⟨e1, e2⟩ := h
    obtain ⟨p1, p2⟩ := p
    have e3 : p1 = Sum.inl q.1 := e1
    have e4 : Rep K F p2 (.int q.2) := e2
    cases e4
    rw [List.map_cons, preps_ints r, e3]
theorem ints_preps {K : PySem.W.Frag} {F : Hp} : ∀ tb : List (Int × Int), PReps K F (tb.map entK) (tb.map entD)
  | [] => .nil
  | q :: tb => .cons ⟨rfl, .int q.2⟩ (ints_preps tb)
theorem key_inj (a b : Int) : (decide ((Sum.inl a : Key) = Sum.inl b)) = decide (a = b) := decide_eq_decide.mpr ⟨fun z => Sum.inl.inj z, fun z => by rw [z]⟩
theorem valV_getI (k : Int) : ∀ tb : List (Int × Int), valV (tb.map entK) (Sum.inl k : Key) = (getI tb k).map V.int
  | [] => rfl
  | q :: tb => by
    have ih := valV_getI k tb
    unfold valV getI at ih ⊢
    rw [List.map_cons, List.find?_cons, List.find?_cons]
    show Option.map _ (match decide ((Sum.inl q.1 : Key) = Sum.inl k) with | true => _ | false => _) = _
    rw [key_inj]
    cases decide (q.1 = k) with
    | true => rfl
    | false => exact ih
theorem any_key (k : Int) : ∀ tb : List (Int × Int), ((tb.map entK).any fun p => decide (p.1 = (Sum.inl k : Key))) = tb.any fun p => decide (p.1 = k)
  | [] => rfl
  | q :: tb => by
    rw [List.map_cons, List.any_cons, List.any_cons, any_key k tb]
    show (decide ((Sum.inl q.1 : Key) = Sum.inl k) || _) = _
    rw [key_inj]
theorem putK_putI (tb : List (Int × Int)) (k v : Int) : putK (tb.map entK) (Sum.inl k : Key) (V.int v) = (putI tb k v).map entK := by
  unfold putK putI
  rw [any_key]
  split
  · rw [List.map_map, List.map_map]
    refine List.map_congr_left fun q _ => ?_
    show (if (Sum.inl q.1 : Key) = Sum.inl k then _ else _) = entK (if q.1 = k then _ else _)
    by_cases c : q.1 = k
    · rw [if_pos c, if_pos (by rw [c])]
    · rw [if_neg c, if_neg (fun z => c (Sum.inl.inj z))]
  · rw [List.map_append]
    rfl
section
variable {M : Mach} {X : Cx} {N : List Str} {sc : Scope} {vb lb gb : Str → Bool} {B : Bs} {G : Sl} {O : Own} {a e f o i value : Expr} {pos pos' p p2 apos cpos : Pos} {d1 : D} {E : EndsD}
theorem we_dnew {Φ : D → Own → Prop} (h : ∀ q, Φ (.obj q) ((q, .dic ([].map entD)) :: O)) : WE X B G O (.Dict [] [] pos) Φ := fun F σ H S Q k =>
  sem pe_dnewK fun q hq => k _ F _ _ _ (S.allocOwn hq (ov := .dic ([].map entD)) ⟨[], upd_same, .nil⟩) (Same.refl _) (.obj q) (h q)
theorem own_dic {F H : Hp} {σ : L2.St} {q : Addr} {tb : List (Int × Int)} (S : Sat X.K B G O F σ H) (h : (q, OV.dic (tb.map entD)) ∈ O) : H q = some (.dK (tb.map entK)) := by
  obtain ⟨_, ks, h1, h2⟩ := S.own _ h
  rw [preps_ints h2] at h1
  exact h1
theorem pv_dgetI {q : Addr} {tb : List (Int × Int)} {k z : Int} (C : Cxt M X N sc vb lb gb) (ho : PEv X B G O o (.obj q)) (he : PEv X B G O e (.int k)) (hf : PEv X B G O f (.int z)) (hm : (q, OV.dic (tb.map entD)) ∈ O)
    (m : M2 X o "get" apos e f cpos := by exact ⟨rfl, rfl, rfl, rfl⟩) : PEv X B G O (.Call (.Attribute o "get" apos) [e, f] [] cpos) (.int ((getI tb k).getD z)) := fun F σ H S Q kk =>
  sem (pe_dget2 (Nat.lt_of_le_of_lt (by omega) C.un) pe_sem pe_sem pe_sem m) (ho F σ H S _ fun v F1 H1 d O1 S1 e1 r1 p1 => by
    obtain ⟨rfl, rfl⟩ := p1
    cases r1
    refine ⟨q, rfl, .inl ⟨_, .inl (own_dic S1 hm)⟩, he F1 σ H1 S1 _ fun v F2 H2 d O2 S2 e2 r2 p2 => ?_⟩
    obtain ⟨rfl, rfl⟩ := p2
    cases r2
    refine hf F2 σ H2 S2 _ fun v F3 H3 d O3 S3 e3 r3 p3 => ?_
    obtain ⟨rfl, rfl⟩ := p3
    cases r3
    refine ⟨_, DGet.k (k := Sum.inl k) (own_dic S3 hm), kk _ F3 H3 (.int ((getI tb k).getD z)) O3 S3 ((e1.trans e2).trans e3) ?_ ⟨rfl, rfl⟩⟩
    rw [valV_getI]
    cases getI tb k with
    | none => exact .int z
    | some y => exact .int y)
theorem ws_dputI (C : Cxt M X N sc vb lb gb) (h : WE X B G O value fun d O1 => ∃ (v k : Int) (q : Addr) (tb : List (Int × Int)) (O2 : Own), d = .int v ∧ PEv X B G O1 o (.obj q) ∧ PEv X B G O1 i (.int k) ∧ (q, OV.dic (tb.map entD)) ∈ O1 ∧ tb.length < 1000000 ∧ OSet O1 q (.dic ((putI tb k v).map entD)) O2 ∧ E.nx G O2)
    (hs : swapsWith value (some (.Subscript o i pos')) pos.line X.env = pure false := by rfl) : WS X B G O (.Assign [.Subscript o i pos'] value pos) E := fun F σ H S D' kk =>
  semS (ps_dput (Nat.lt_of_le_of_lt (by omega) C.un) pe_sem pe_sem pe_sem hs) (h F σ H S _ fun v F1 H1 d O1 S1 e1 r1 p1 => by
    obtain ⟨n, k, q, tb, O2, rfl, ho, hi, hm, hl, hs, q2⟩ := p1
    cases r1
    refine ho F1 σ H1 S1 _ fun v F2 H2 d O2' S2 e2 r2 p2 => ?_
    obtain ⟨rfl, rfl⟩ := p2
    cases r2
    refine hi F2 σ H2 S2 _ fun v F3 H3 d O3 S3 e3 r3 p3 => ?_
    obtain ⟨rfl, rfl⟩ := p3
    cases r3
    have hd := own_dic S3 hm
    refine ⟨q, _, rfl, DPut.k (k := Sum.inl k) hd (by rw [List.length_map]; exact Nat.lt_of_lt_of_le hl (len_line (Nat.le_refl _))), ?_⟩
    rw [putK_putI]
    exact kk.nx G O2 F3 σ _ (S3.mut hs ⟨_, upd_same, ints_preps _⟩) ((e1.trans e2).trans e3) q2)
/-- a heap that has grown: a new owned list, the rest will not change -/
theorem Sat.grow {F H H' : Hp} {σ : L2.St} {l : Addr} {vs : List V} {ds : List D} (S : Sat X.K B G O F σ H) (hx : ∀ b o, H b = some o → H' b = some o) (hl : H l = none) (hv : H' l = some (.lst vs))
    (hr : ∀ F', Same F F' → (∀ b o, H b = none → b ≠ l → H' b = some o → F' b = some o) → Reps X.K F' vs ds) : ∃ F', Same F F' ∧ Sat X.K B G ((l, .lst ds) :: O) F' σ H' := by
  obtain ⟨hF, hO⟩ := S.fresh hl
  let F' : Hp := fun b => match F b with
    | some o => some o
    | none => match H b with
      | some _ => none
      | none => if b = l then none else H' b
  have f1 : ∀ b o, F b = some o → F' b = some o := fun b o e => by show (match F b with | some o => some o | none => _) = _; rw [e]
  have f2 : ∀ b o, F b = none → H b = none → b ≠ l → H' b = some o → F' b = some o := fun b o e1 e2 e3 e4 => by
    show (match F b with | some o => some o | none => match H b with | some _ => none | none => if b = l then none else H' b) = _
    rw [e1, e2]
    dsimp only
    rw [if_neg e3, e4]
  have f3 : ∀ b u, H b = some u → F b = none → F' b = none := fun b u e1 e2 => by
    show (match F b with | some o => some o | none => match H b with | some _ => none | none => if b = l then none else H' b) = _
    rw [e2, e1]
  have f4 : F' l = none := by
    show (match F l with | some o => some o | none => match H l with | some _ => none | none => if l = l then none else H' l) = _
    rw [hF, hl]
    dsimp only
    rw [if_pos rfl]
  have f5 : ∀ b o, F' b = some o → H' b = some o := fun b o e => by
    cases e1 : F b with
    | some u =>
      rw [f1 b u e1] at e
      cases e
      exact hx b _ (S.ex b _ e1)
    | none =>
      cases e2 : H b with
      | some u => rw [f3 b u e2 e1] at e; cases e
      | none =>
        by_cases c : b = l
        · rw [c, f4] at e; cases e
        · have z : F' b = H' b := by
            show (match F b with | some o => some o | none => match H b with | some _ => none | none => if b = l then none else H' b) = _
            rw [e1, e2]
            dsimp only
            rw [if_neg c]
          rw [z] at e
          exact e
  have e0 : Same F F' := f1
  refine ⟨F', e0, S.len, fun i d e => ?_, f5, List.nodup_cons.mpr ⟨hO, S.nd⟩, fun p hp => ?_, S.bF.trans e0, fun b u e1 e2 e3 => ?_⟩
  · obtain ⟨v, h1, h2⟩ := S.slot i d e
    exact ⟨v, h1, h2.mono e0⟩
  · rcases List.mem_cons.mp hp with e | hp
    · subst e
      exact ⟨f4, vs, hv, hr F' e0 fun b o e1 e2 e3 => f2 b o (S.fresh e1).1 e1 e2 e3⟩
    · obtain ⟨h1, h2⟩ := S.own p hp
      obtain ⟨u, hu⟩ := h2.there
      exact ⟨f3 _ u hu h1, h2.mono e0 ((hx _ _ hu).trans hu.symm)⟩
  · obtain ⟨h1, h2, h3⟩ := S.bH b u e1 e2 e3
    refine ⟨hx b u h1, f3 b u h1 h2, fun z => ?_⟩
    rcases List.mem_cons.mp z with z | z
    · rw [show b = l from z, hl] at h1
      cases h1
    · exact h3 z
theorem reps_mk {α : Type} {K : PySem.W.Frag} {F : Hp} (f : α → V) (g : α → D) : ∀ xs : List α, (∀ x ∈ xs, Rep K F (f x) (g x)) → Reps K F (xs.map f) (xs.map g)
  | [], _ => .nil
  | x :: xs, h => .cons (h x List.mem_cons_self) (reps_mk f g xs fun y hy => h y (List.mem_cons_of_mem _ hy))
abbrev dPr (q : Int × Int) : D := .tup [.int q.1, .int q.2]
/-- sorted(d.items()) -/
theorem wn_sortedItems {q : Addr} {tb : List (Int × Int)} {Φ : List D → Own → Prop} (C : Cxt M X N sc vb lb gb) (hm : M.mg "sorted" = none) (hg : gb "sorted" = true) (ho : PEv X B G O o (.obj q)) (ht : (q, OV.dic (tb.map entD)) ∈ O)
    (h : ∀ out : List (Int × Int), out.Perm tb → out.Pairwise (fun e f => SrtO.lexB f e = false) → Φ (out.map dPr) O) (hbase : attributeBase o "items" X.env (eval o X.env) = eval o X.env := by rfl) (hline : (apos.endLine == cpos.line) = true := by rfl)
    (hpl : (backTo pos (starEach [] X.env)).any (·.1) = false := by rfl) : WN X B G O (.Call (.Name "sorted" p) [.Call (.Attribute o "items" apos) [] [] cpos] [] pos) Φ := fun F σ H S Q kk => by
  refine sem (pe_callB (cr_sortedItemsK C.calm) (C.gl _ hg).1 (by rw [C.mg]; exact hm) (by rfl) (pa_cons (pe_bm0 PySem.F.plainAttrs_dict PySem.F.slot_dict_items PySem.F.type_dict_items mt_itemsK pe_sem hbase hline) pa_nil (star_cons rfl)) (by decide) (C.gl _ hg).2 (star_cons rfl) hpl) ?_
  refine ho F σ H S _ fun v F1 H1 d O1 S1 e1 r1 p1 => ?_
  obtain ⟨rfl, rfl⟩ := p1
  cases r1
  have hd := own_dic S1 ht
  refine ⟨.inr (.inr (.inl ⟨rfl, .inl ⟨_, hd⟩⟩)), q, _, rfl, rfl, hd, fun w hw => ?_⟩
  have nq : q ≠ w := ne_of_none hd hw
  have S2 := S1.alloc hw (itemsO w q)
  have hs : Same F1 (upd F1 w (itemsO w q)) := same_upd (S1.fresh hw).1
  refine ⟨w, q, tb, rfl, upd_same, by rw [upd_ne nq]; exact hd, fun H' l ps hx hl hps perm srt hL hT => ?_⟩
  obtain ⟨F', hF, S3⟩ := S2.grow (ds := (ps.map (·.2)).map dPr) hx hl hL fun F' _ ff => by
    rw [List.map_map]
    exact reps_mk (fun z : Addr × Int × Int => V.ref z.1) (fun z => dPr z.2) ps fun z hz => .tup (SqT.of (ff _ _ (hps z hz).1 (hps z hz).2 (hT z hz))) (.cons (.int _) (.cons (.int _) .nil))
  exact kk l _ F' H' _ S3 ((e1.trans hs).trans hF) (h _ perm srt)
end
end Dl

set_option Elab.async false
set_option linter.all false
set_option maxRecDepth 100000
set_option maxHeartbeats 2000000
/-! D20: sorted of pairs of ints, of rows that begin with three ints. -/
namespace Dl
open PySem PySem.Spec PyProof.Rows L2 L2.DX
/-- sorted(xs): pairs of ints, each at its address -/
def rSortPT (K : PySem.W.Frag) : List V → Hp → VK → Prop := fun vs H Q => ∃ (a : Addr) (zs : List (Addr × Int × Int)), vs = [V.ref a] ∧ SqL K H a (zs.map fun z => V.ref z.1) ∧ (∀ z ∈ zs, SqT K H z.1 [.int z.2.1, .int z.2.2]) ∧
  ∀ (ws : List (Addr × Int × Int)) p, ws.Perm zs → (ws.map (·.2)).Pairwise (fun e f => SrtO.lexB f e = false) → H p = none → Q (.ref p) (upd H p (.lst (ws.map fun z => V.ref z.1)))
theorem addrs_of : ∀ {α : Type} {zs : List (Addr × α)} {its : List Value}, Vals (zs.map fun z => V.ref z.1) its → its = zs.map fun z => Value.ref z.1
  | _, [], _, .nil => rfl
  | _, z :: zs, _, .cons r t => by rw [List.map_cons, addrs_of t, show _ = Value.ref z.1 from r]
theorem vals_addrs {α : Type} : ∀ zs : List (Addr × α), Vals (zs.map fun z => V.ref z.1) (zs.map fun z => Value.ref z.1)
  | [] => .nil
  | _ :: zs => .cons rfl (vals_addrs zs)
section
variable {X : Cx}
theorem cr_sortedPT : CallR X (.builtin "sorted") (rSortPT X.K) := by
  intro pins s σ H vs us Q I r h
  obtain ⟨a, zs, rfl, hs, hx, q⟩ := h
  obtain ⟨its, rv, hl, hz⟩ := I.list hs
  obtain rfl := Vals.ref1 r
  have ei := addrs_of rv
  subst ei
  have pr : ∀ z ∈ zs, Srt.IsPair s.heap (.ref z.1) z.2.1 z.2.2 ∧ prAt s.heap (.ref z.1) = z.2 := fun z hz => by
    obtain ⟨its2, r2, ⟨o, ho, hc, n, hd⟩, _⟩ := I.tuple (hx z hz)
    obtain ⟨u1, u2, rfl, ri, rj⟩ := vals2 r2
    obtain ⟨t1, rfl⟩ := ri
    obtain ⟨t2, rfl⟩ := rj
    refine ⟨⟨z.1, o, t1, t2, n, rfl, ho, hc, hd⟩, ?_⟩
    unfold prAt adr
    rw [ho]
    obtain ⟨oc, od, dt, osl⟩ := o
    have hd : dt = _ := hd
    subst hd
    rfl
  refine SrtO.sorted_pairsO (k := prAt s.heap) hl.isList (by rw [List.length_map] at hz ⊢; exact hz) (fun v hv => ?_) fun h' d out h1 h2 kp hd hn => ?_
  · obtain ⟨z, hz, rfl⟩ := List.mem_map.mp hv
    rw [(pr z hz).2]
    exact (pr z hz).1
  · obtain ⟨n, hn⟩ := hn
    have mem : ∀ v ∈ out, ∃ z ∈ zs, v = Value.ref z.1 := fun v hv => by
      obtain ⟨z, hz, e⟩ := List.mem_map.mp (h2.perm.mem_iff.mp hv)
      exact ⟨z, hz, e.symm⟩
    have dz : ∀ v ∈ out, ∃ z ∈ zs, v = Value.ref z.1 ∧ (adr v, prAt s.heap v) = z := fun v hv => by
      obtain ⟨z, hz, rfl⟩ := mem v hv
      exact ⟨z, hz, rfl, by rw [(pr z hz).2]; rfl⟩
    have e1 : (out.map fun v => (adr v, prAt s.heap v)).map (fun z => Value.ref z.1) = out := by
      rw [List.map_map]
      conv => rhs; rw [← List.map_id out]
      refine List.map_congr_left fun v hv => ?_
      obtain ⟨z, _, rfl, _⟩ := dz v hv
      rfl
    have e2 : (zs.map fun z => Value.ref z.1).map (fun v => (adr v, prAt s.heap v)) = zs := by
      rw [List.map_map]
      conv => rhs; rw [← List.map_id zs]
      refine List.map_congr_left fun z hz => ?_
      show (z.1, prAt s.heap (.ref z.1)) = z
      rw [(pr z hz).2]
    have pm : (out.map fun v => (adr v, prAt s.heap v)).Perm zs := by
      have := h2.perm.map fun v => (adr v, prAt s.heap v)
      rw [e2] at this
      exact this
    have rv2 : Vals ((out.map fun v => (adr v, prAt s.heap v)).map fun z => V.ref z.1) out := by
      conv => arg 2; rw [← e1]
      exact vals_addrs _
    refine ⟨.ref d, upd H d (.lst ((out.map fun v => (adr v, prAt s.heap v)).map fun z => V.ref z.1)), I.laid (t' := s.toks) kp hd ⟨?_, out, n, rv2, hn⟩, rfl, q _ d pm ?_ (I.hok.fresh hd)⟩
    · rw [List.length_map, pm.length_eq]
      rw [List.length_map] at hz
      exact hz
    · rw [List.map_map]
      exact List.pairwise_map.mpr h1
end
/-! ### rows that begin with three ints, no two of them alike -/
abbrev K3 := Int × Int × Int
def lex3 (p q : K3) : Bool := if p.1 = q.1 then SrtO.lexB p.2 q.2 else decide (p.1 < q.1)
theorem lex3_iff {p q : K3} : lex3 p q = true ↔ p.1 < q.1 ∨ (p.1 = q.1 ∧ (p.2.1 < q.2.1 ∨ (p.2.1 = q.2.1 ∧ p.2.2 < q.2.2))) := by
  unfold lex3
  by_cases c : p.1 = q.1
  · rw [if_pos c, SrtO.lexB_iff]
    constructor
    · exact fun h => .inr ⟨c, h⟩
    · rintro (h | h)
      · omega
      · exact h.2
  · rw [if_neg c, decide_eq_true_iff]
    constructor
    · exact fun h => .inl h
    · rintro (h | h)
      · exact h
      · exact absurd h.1 c
theorem lex3_no {p q : K3} : lex3 p q = false ↔ ¬ (p.1 < q.1 ∨ (p.1 = q.1 ∧ (p.2.1 < q.2.1 ∨ (p.2.1 = q.2.1 ∧ p.2.2 < q.2.2)))) := by
  rw [← lex3_iff, Bool.not_eq_true]
theorem swo_lex3 (k : Value → K3) : SrtO.Swo fun v u => lex3 (k v) (k u) := by
  refine ⟨fun x y h => ?_, fun x y z h1 h2 => ?_⟩
  · have a := lex3_iff.mp h
    refine lex3_no.mpr ?_
    omega
  · have a := lex3_no.mp h1
    have b := lex3_no.mp h2
    refine lex3_no.mpr ?_
    omega
def IsR3 (h : Heap) (v : Value) (k : K3) : Prop := ∃ a o t1 t2 t3 r n, v = .ref a ∧ h.get? a = some o ∧ o.cls = .type "tuple" ∧ o.data = .seq #[.int k.1 t1, .int k.2.1 t2, .int k.2.2 t3, r] n
theorem IsR3.keeps {h h' : Heap} {v : Value} {k : K3} (x : IsR3 h v k) (kp : ∀ b o, h.get? b = some o → o.cls = .type "tuple" → h'.get? b = some o) : IsR3 h' v k := by
  obtain ⟨a, o, t1, t2, t3, r, n, e, ho, hc, hd⟩ := x
  exact ⟨a, o, t1, t2, t3, r, n, e, kp _ _ ho hc, hc, hd⟩
theorem r3_firsts {h : Heap} {k : Value → K3} : ∀ {vs : List Value}, (∀ v ∈ vs, IsR3 h v (k v)) → ∃ fs : List Value, PySem.W.KatTups h vs fs ∧ fs.length = vs.length ∧ ∀ f ∈ fs, ∃ x t, f = Value.int x t
  | [], _ => ⟨[], PySem.W.KatTups.nil, rfl, fun _ hm => (List.not_mem_nil hm).elim⟩
  | v :: vs, hp => by
    obtain ⟨fs, f1, f2, f3⟩ := r3_firsts (vs := vs) fun u hu => hp u (List.mem_cons_of_mem _ hu)
    obtain ⟨a, o, t1, t2, t3, r, n, e, ho, hc, hd⟩ := hp v List.mem_cons_self
    rw [e]
    refine ⟨.int _ t1 :: fs, PySem.W.KatTups.cons ho hc hd rfl f1, by rw [List.length_cons, List.length_cons, f2], fun f hf => ?_⟩
    rcases List.mem_cons.mp hf with z | hf
    · exact ⟨_, _, z⟩
    · exact f3 f hf
section
variable {prog : Program} {w : World} {A : Around} {s : Shared}
theorem r3_cmp {vs : List Value} {k : Value → K3} (hp : ∀ v ∈ vs, IsR3 s.heap v (k v)) (hu : ∀ v ∈ vs, ∀ u ∈ vs, k v = k u → v = u) : SrtO.Cmp prog w A s (tuples' true) (fun p => p.1 ∈ vs) (SrtO.lt2 fun v u => lex3 (k v) (k u)) := by
  intro p q hm hm'
  have h1 := hp _ hm
  have h2 := hp _ hm'
  have h3 := hu _ hm _ hm'
  show wpAny (model prog w) A (keyLt' (tuples' true) p.1 q.1) (fun r s' => s' = s ∧ r = lex3 (k p.1) (k q.1)) (fun _ _ => False) s
  generalize p.1 = v at h1 h3 ⊢
  generalize q.1 = u at h2 h3 ⊢
  generalize k v = kv at h1 h3 ⊢
  generalize k u = ku at h2 h3 ⊢
  obtain ⟨x, y, z⟩ := kv
  obtain ⟨x', y', z'⟩ := ku
  obtain ⟨a, o, t1, t2, t3, r, n, e, ho, hc, hd⟩ := h1
  obtain ⟨a', o', t1', t2', t3', r', n', e', ho', hc', hd'⟩ := h2
  rw [e, e'] at h3 ⊢
  dsimp only at hd hd'
  refine PySem.W.kat_lt ho hd ho' hd' ?_
  show PySem.W.KatLex prog w A true (decide (4 < 4)) _ [(.int x t1, .int x' t1'), (.int y t2, .int y' t2'), (.int z t3, .int z' t3'), (r, r')] 0 s
  unfold lex3 SrtO.lexB
  dsimp only
  refine PySem.W.kat_cons (SeqAt.EqAt.int_int x t1 x' t1' prog w _ _ (PySem.W.kat_go (fun e1 => ?_) (fun e1 => ?_)))
  · have ex : x = x' := by simpa using e1
    rw [if_pos ex]
    refine PySem.W.kat_yes (PySem.W.kat_cons (SeqAt.EqAt.int_int y t2 y' t2' prog w _ _ (PySem.W.kat_go (fun e2 => ?_) (fun e2 => ?_))))
    · have ey : y = y' := by simpa using e2
      rw [if_pos ey]
      refine PySem.W.kat_yes (PySem.W.kat_cons (SeqAt.EqAt.int_int z t3 z' t3' prog w _ _ (PySem.W.kat_go (fun e3 => ?_) (fun e3 => ?_))))
      · have ez : z = z' := by simpa using e3
        subst ex ey ez
        have ea : a = a' := by
          have := h3 rfl
          injection this
        subst ea
        rw [ho] at ho'
        cases ho'
        rw [hd] at hd'
        have er : r = r' := by
          injection hd' with hd1 hd2
          have := congrArg (fun v : Array Value => v.toList) hd1
          have this : t1 = t1' ∧ t2 = t2' ∧ t3 = t3' ∧ r = r' := by simpa using this
          exact this.2.2.2
        subst er
        refine PySem.W.kat_yes (PySem.W.kat_cons (SeqAt.EqAt.same r prog w _ _ (PySem.W.kat_yes (PySem.W.kat_nil ⟨rfl, ?_⟩))))
        exact (decide_eq_false (Int.lt_irrefl _)).symm
      · exact PySem.W.kat_no (PySem.W.kat_one _ _ (PyProof.Rows.lt_int ⟨rfl, rfl⟩))
    · have ey : ¬ y = y' := by simpa using e2
      rw [if_neg ey]
      exact PySem.W.kat_no (PySem.W.kat_one _ _ (PyProof.Rows.lt_int ⟨rfl, rfl⟩))
  · have ex : ¬ x = x' := by simpa using e1
    rw [if_neg ex]
    exact PySem.W.kat_no (oneLt_int ⟨rfl, rfl⟩)
theorem r3_sortable {a : Addr} {vs : List Value} {k : Value → K3} (h0 : 0 < vs.length) (hp : ∀ v ∈ vs, IsR3 s.heap v (k v)) (hu : ∀ v ∈ vs, ∀ u ∈ vs, k v = k u → v = u) (ha : ∀ o, s.heap.get? a = some o → o.cls ≠ .type "tuple") : SrtO.SortableO prog w A s a vs fun v u => lex3 (k v) (k u) := by
  intro h' keep
  have hp' : ∀ v ∈ vs, IsR3 h' v (k v) := fun v hm => (hp v hm).keeps fun b o e c => keep b o (fun z => by subst z; exact ha o e c) e
  obtain ⟨fs, f1, f2, f3⟩ := r3_firsts hp'
  refine ⟨tuples' true, fun Q E hq => ?_, r3_cmp hp' hu⟩
  refine PySem.W.kat_kind (T := .type "int") f1 (by omega) (fun f hm => ?_) (by rfl) ?_
  · obtain ⟨x, t, rfl⟩ := f3 f hm
    exact PySem.W.Looks.now
  · rw [show (Value.type "int" != Value.type "tuple") = true by first | rfl | decide +kernel]
    exact hq
end
def k3At (h : Heap) (v : Value) : K3 := match h.get? (adr v) with
  | some ⟨_, _, .seq its _, _⟩ => (match its.toList with
    | [.int i _, .int j _, .int l _, _] => (i, j, l)
    | _ => (0, 0, 0))
  | _ => (0, 0, 0)
abbrev Z3 := Addr × K3 × V
def rSortR3 (K : PySem.W.Frag) : List V → Hp → VK → Prop := fun vs H Q => ∃ (a : Addr) (zs : List Z3), vs = [V.ref a] ∧ SqL K H a (zs.map fun z => V.ref z.1) ∧ (∀ z ∈ zs, SqT K H z.1 [.int z.2.1.1, .int z.2.1.2.1, .int z.2.1.2.2, z.2.2]) ∧ (zs.map fun z => z.2.1).Nodup ∧
  ∀ (ws : List Z3) p, ws.Perm zs → (ws.map fun z => z.2.1).Pairwise (fun e f => lex3 f e = false) → H p = none → Q (.ref p) (upd H p (.lst (ws.map fun z => V.ref z.1)))
theorem nodup_key {α β : Type} {f : α → β} : ∀ {l : List α}, (l.map f).Nodup → ∀ x ∈ l, ∀ y ∈ l, f x = f y → x = y
  | [], _, x, hx, _, _, _ => (List.not_mem_nil hx).elim
  | a :: l, h, x, hx, y, hy, e => by
    obtain ⟨h1, h2⟩ := List.nodup_cons.mp h
    rcases List.mem_cons.mp hx with ex | kx <;> rcases List.mem_cons.mp hy with ey | ky
    · rw [ex, ey]
    · exact (h1 (by rw [← ex, e]; exact List.mem_map_of_mem ky)).elim
    · exact (h1 (by rw [← ey, ← e]; exact List.mem_map_of_mem kx)).elim
    · exact nodup_key h2 x kx y ky e
section
variable {X : Cx}
theorem cr_sortedR3 : CallR X (.builtin "sorted") (rSortR3 X.K) := by
  intro pins s σ H vs us Q I r h
  obtain ⟨a, zs, rfl, hs, hx, hnd, q⟩ := h
  obtain ⟨its, rv, hl, hz⟩ := I.list hs
  obtain rfl := Vals.ref1 r
  have ei := addrs_of rv
  subst ei
  rw [List.length_map] at hz
  have pr : ∀ z ∈ zs, IsR3 s.heap (.ref z.1) z.2.1 ∧ k3At s.heap (.ref z.1) = z.2.1 := fun z hz => by
    obtain ⟨its2, r2, ⟨o, ho, hc, n, hd⟩, _⟩ := I.tuple (hx z hz)
    cases r2 with
    | cons ri r2 =>
      cases r2 with
      | cons rj r2 =>
        cases r2 with
        | cons rl r2 =>
          cases r2 with
          | cons rr r2 =>
            cases r2
            obtain ⟨t1, rfl⟩ := ri
            obtain ⟨t2, rfl⟩ := rj
            obtain ⟨t3, rfl⟩ := rl
            refine ⟨⟨z.1, o, t1, t2, t3, _, n, rfl, ho, hc, hd⟩, ?_⟩
            unfold k3At adr
            rw [ho]
            obtain ⟨oc, od, dt, osl⟩ := o
            have hd : dt = _ := hd
            subst hd
            rfl
  -- the row at an address
  let back : Value → Z3 := fun v => ((zs.find? fun z => decide (z.1 = adr v)).getD (0, (0, 0, 0), .non))
  have hk : ∀ z ∈ zs, ∀ y ∈ zs, z.1 = y.1 → z = y := fun z hz y hy e => nodup_key hnd z hz y hy (by rw [← (pr z hz).2, ← (pr y hy).2, e])
  have bk : ∀ z ∈ zs, back (.ref z.1) = z := fun z hz => by
    show (zs.find? fun y => decide (y.1 = z.1)).getD _ = z
    cases hf : zs.find? fun y => decide (y.1 = z.1) with
    | none =>
      have := List.find?_eq_none.mp hf z hz
      simp at this
    | some y =>
      have h1 := List.find?_some hf
      have h2 := List.mem_of_find?_eq_some hf
      exact (hk z hz y h2 (of_decide_eq_true h1).symm).symm
  refine SrtO.sorted_ord (swo_lex3 (k3At s.heap)) hl.isList (by rw [List.length_map]; exact hz) (fun l2 h₁ b hb kk => r3_sortable (k := k3At s.heap) (by omega) (fun v hv => ?_) (fun v hv u hu e => ?_) fun o e => ?_) fun out h1 h2 => ?_
  · obtain ⟨z, hz, rfl⟩ := List.mem_map.mp hv
    rw [(pr z hz).2]
    exact (pr z hz).1.keeps fun b o e _ => (kk b o e).2
  · obtain ⟨z, hz, rfl⟩ := List.mem_map.mp hv
    obtain ⟨y, hy, rfl⟩ := List.mem_map.mp hu
    rw [(pr z hz).2, (pr y hy).2] at e
    rw [nodup_key hnd z hz y hy e]
  · have e' : some o = some (seqObj "list" _ 0) := e.symm.trans hb
    cases e'
    exact fun c => absurd (Value.type.inj c) (by decide)
  · have mem : ∀ v ∈ out, ∃ z ∈ zs, v = Value.ref z.1 ∧ back v = z := fun v hv => by
      obtain ⟨z, hz, e⟩ := List.mem_map.mp (h2.perm.mem_iff.mp hv)
      exact ⟨z, hz, e.symm, by rw [← e]; exact bk z hz⟩
    have e1 : (out.map back).map (fun z => Value.ref z.1) = out := by
      rw [List.map_map]
      conv => rhs; rw [← List.map_id out]
      refine List.map_congr_left fun v hv => ?_
      obtain ⟨z, _, e, e2⟩ := mem v hv
      show Value.ref (back v).1 = v
      rw [e2, e]
    have e2 : (zs.map fun z => Value.ref z.1).map back = zs := by
      rw [List.map_map]
      conv => rhs; rw [← List.map_id zs]
      exact List.map_congr_left fun z hz => bk z hz
    have pm : (out.map back).Perm zs := by
      have := h2.perm.map back
      rw [e2] at this
      exact this
    have rv2 : Vals ((out.map back).map fun z => V.ref z.1) out := by
      conv => arg 2; rw [← e1]
      exact vals_addrs _
    obtain ⟨ep, he'⟩ := PyProof.Rows.sortedAll_at s.heap (zs.map fun z => Value.ref z.1) out.toArray
    refine ⟨.ref _, upd H (s.heap.objs.size + 1) (.lst ((out.map back).map fun z => V.ref z.1)), I.laid (t' := s.toks) (fun _ _ => PyProof.Rows.sortedAll_old) (Nat.le_succ _) ⟨?_, out, ep, rv2, he'⟩, rfl, q _ _ pm ?_ (I.hok.fresh (Nat.le_succ _))⟩
    · rw [List.length_map, pm.length_eq]
      exact hz
    · rw [List.map_map]
      refine List.pairwise_map.mpr (h1.imp_of_mem fun {x y} hx hy e => ?_)
      obtain ⟨z, hz, ez, bz⟩ := mem x hx
      obtain ⟨u, hu, eu, bu⟩ := mem y hy
      show lex3 (back y).2.1 (back x).2.1 = false
      rw [bz, bu, ← (pr z hz).2, ← (pr u hu).2, ← ez, ← eu]
      exact e
end
section
variable {M : Mach} {X : Cx} {N : List Str} {sc : Scope} {vb lb gb : Str → Bool} {B : Bs} {G : Sl} {O : Own} {a : Expr} {pos p : Pos} {d1 : D}
theorem reps_pairs {K : PySem.W.Frag} {F : Hp} : ∀ {tb : List (Int × Int)} {vs : List V}, Reps K F vs (tb.map dPr) → ∃ zs : List (Addr × Int × Int), vs = (zs.map fun z => V.ref z.1) ∧ zs.map (·.2) = tb ∧ ∀ z ∈ zs, SqT K F z.1 [.int z.2.1, .int z.2.2]
  | [], _, .nil => ⟨[], rfl, rfl, fun _ h => (List.not_mem_nil h).elim⟩
  | q :: tb, _, .cons h r => by
    obtain ⟨zs, e1, e2, e3⟩ := reps_pairs r
    cases h with
    | tup hq rs =>
      rename_i t xs
      have rs : Reps K F xs ([q.1, q.2].map D.int) := rs
      rw [reps_ints rs] at hq
      refine ⟨(t, q) :: zs, by rw [List.map_cons, e1], by rw [List.map_cons, e2], fun z hz => ?_⟩
      rcases List.mem_cons.mp hz with e | hz
      · rw [e]; exact hq
      · exact e3 z hz
/-- sorted(xs), xs a list of pairs of ints -/
theorem wn_sortedPairs {tb : List (Int × Int)} {Φ : List D → Own → Prop} (C : Cxt M X N sc vb lb gb) (hm : M.mg "sorted" = none) (hg : gb "sorted" = true) (ha : PEv X B G O a d1) (it : ItemsL O d1 (tb.map dPr)) (h : ∀ out : List (Int × Int), out.Perm tb → out.Pairwise (fun e f => SrtO.lexB f e = false) → Φ (out.map dPr) O)
    (sa : Plain1 a := by exact fun _ _ => star_cons rfl) (hpl : (backTo pos (starEach [] X.env)).any (·.1) = false := by rfl) : WN X B G O (.Call (.Name "sorted" p) [a] [] pos) Φ := fun F σ H S Q k => by
  refine sem (pe_callB cr_sortedPT (C.gl _ hg).1 (by rw [C.mg]; exact hm) (by rfl) (pa_cons pe_sem pa_nil (sa _ _)) (by decide) (C.gl _ hg).2 (sa _ _) hpl) ?_
  refine ha F σ H S _ fun v F1 H1 d O1 S1 e1 r1 p1 => ?_
  obtain ⟨rfl, rfl⟩ := p1
  obtain ⟨l, vs, rfl, rs, hq⟩ := itemsL_ok S1 r1 it
  obtain ⟨zs, z1, z2, z3⟩ := reps_pairs rs
  subst z1
  refine ⟨l, zs, rfl, hq, fun z hz => sqT_mono S1.ex (z3 z hz), fun ws q perm srt hp => ?_⟩
  have hd : Reps X.K F1 (ws.map fun z => V.ref z.1) ((ws.map (·.2)).map dPr) := by
    rw [List.map_map]
    exact reps_mk (fun z : Addr × Int × Int => V.ref z.1) (fun z => dPr z.2) ws fun z hz => .tup (z3 z (perm.mem_iff.mp hz)) (.cons (.int _) (.cons (.int _) .nil))
  refine k q _ F1 _ _ (S1.allocOwn hp (ov := .lst ((ws.map (·.2)).map dPr)) ⟨_, upd_same, hd⟩) e1 (h _ ?_ srt)
  rw [← z2]
  exact perm.map _
abbrev dR3 (q : K3 × D) : D := .tup [.int q.1.1, .int q.1.2.1, .int q.1.2.2, q.2]
theorem reps_rows {K : PySem.W.Frag} {F : Hp} : ∀ {tb : List (K3 × D)} {vs : List V}, Reps K F vs (tb.map dR3) → ∃ zs : List (Z3 × D), vs = (zs.map fun z => V.ref z.1.1) ∧ (zs.map fun z => (z.1.2.1, z.2)) = tb ∧ ∀ z ∈ zs, SqT K F z.1.1 [.int z.1.2.1.1, .int z.1.2.1.2.1, .int z.1.2.1.2.2, z.1.2.2] ∧ Rep K F z.1.2.2 z.2
  | [], _, .nil => ⟨[], rfl, rfl, fun _ h => (List.not_mem_nil h).elim⟩
  | q :: tb, _, .cons h r => by
    obtain ⟨zs, e1, e2, e3⟩ := reps_rows r
    cases h with
    | tup hq rs =>
      rename_i t xs
      cases rs with
      | cons a1 rs =>
        cases rs with
        | cons a2 rs =>
          cases rs with
          | cons a3 rs =>
            cases rs with
            | cons a4 rs =>
              cases rs
              cases a1
              cases a2
              cases a3
              rename_i v4
              refine ⟨((t, q.1, v4), q.2) :: zs, by rw [List.map_cons, e1], by rw [List.map_cons, e2], fun z hz => ?_⟩
              rcases List.mem_cons.mp hz with e | hz
              · rw [e]; exact ⟨hq, a4⟩
              · exact e3 z hz
theorem perm_lift2 {α β : Type} (f : α → β) : ∀ {l m : List β}, l.Perm m → ∀ {bs : List α}, m = bs.map f → ∃ as : List α, as.Perm bs ∧ l = as.map f := by
  intro l m h
  induction h with
  | nil => intro bs e; exact ⟨bs, List.Perm.refl _, e⟩
  | cons x _ ih =>
    intro bs e
    cases bs with
    | nil => cases e
    | cons b bs =>
      rw [List.map_cons] at e
      injection e with e1 e2
      obtain ⟨as, p, q⟩ := ih e2
      exact ⟨b :: as, p.cons b, by rw [List.map_cons, q, e1]⟩
  | swap x y l =>
    intro bs e
    match bs, e with
    | b :: c :: bs, e =>
      rw [List.map_cons, List.map_cons] at e
      injection e with e1 e2
      injection e2 with e2 e3
      exact ⟨c :: b :: bs, List.Perm.swap b c bs, by rw [List.map_cons, List.map_cons, e1, e2, e3]⟩
    | [], e => cases e
    | [_], e => injection e with _ e; cases e
  | trans _ _ ih1 ih2 =>
    intro bs e
    obtain ⟨as, p, q⟩ := ih2 e
    obtain ⟨cs, p2, q2⟩ := ih1 q
    exact ⟨cs, p2.trans p, q2⟩
/-- sorted(xs), xs rows that begin with three ints -/
theorem wn_sortedRows {tb : List (K3 × D)} {Φ : List D → Own → Prop} (C : Cxt M X N sc vb lb gb) (hm : M.mg "sorted" = none) (hg : gb "sorted" = true) (ha : PEv X B G O a d1) (it : ItemsL O d1 (tb.map dR3)) (hnd : (tb.map (·.1)).Nodup) (h : ∀ out : List (K3 × D), out.Perm tb → (out.map (·.1)).Pairwise (fun e f => lex3 f e = false) → Φ (out.map dR3) O)
    (sa : Plain1 a := by exact fun _ _ => star_cons rfl) (hpl : (backTo pos (starEach [] X.env)).any (·.1) = false := by rfl) : WN X B G O (.Call (.Name "sorted" p) [a] [] pos) Φ := fun F σ H S Q k => by
  refine sem (pe_callB cr_sortedR3 (C.gl _ hg).1 (by rw [C.mg]; exact hm) (by rfl) (pa_cons pe_sem pa_nil (sa _ _)) (by decide) (C.gl _ hg).2 (sa _ _) hpl) ?_
  refine ha F σ H S _ fun v F1 H1 d O1 S1 e1 r1 p1 => ?_
  obtain ⟨rfl, rfl⟩ := p1
  obtain ⟨l, vs, rfl, rs, hq⟩ := itemsL_ok S1 r1 it
  obtain ⟨zs, z1, z2, z3⟩ := reps_rows rs
  subst z1
  have em : (zs.map fun z => V.ref z.1.1) = (zs.map (·.1)).map fun z => V.ref z.1 := by rw [List.map_map]; rfl
  rw [em] at hq
  refine ⟨l, zs.map (·.1), rfl, hq, fun z hz => ?_, ?_, fun ws q perm srt hp => ?_⟩
  · obtain ⟨y, hy, rfl⟩ := List.mem_map.mp hz
    exact sqT_mono S1.ex (z3 y hy).1
  · rw [List.map_map]
    rw [← z2, List.map_map] at hnd
    exact hnd
  · obtain ⟨as, pa, ea⟩ := perm_lift2 (fun z : Z3 × D => z.1) perm rfl
    subst ea
    have hd : Reps X.K F1 ((as.map fun z => z.1).map fun z => V.ref z.1) ((as.map fun z => (z.1.2.1, z.2)).map dR3) := by
      rw [List.map_map, List.map_map]
      exact reps_mk (fun z : Z3 × D => V.ref z.1.1) (fun z => dR3 (z.1.2.1, z.2)) as fun z hz => .tup (z3 z (pa.mem_iff.mp hz)).1 (.cons (.int _) (.cons (.int _) (.cons (.int _) (.cons (z3 z (pa.mem_iff.mp hz)).2 .nil))))
    refine k q _ F1 _ _ (S1.allocOwn hp (ov := .lst ((as.map fun z => (z.1.2.1, z.2)).map dR3)) ⟨_, upd_same, hd⟩) e1 (h _ ?_ ?_)
    · rw [← z2]
      exact pa.map _
    · rw [List.map_map]
      rw [List.map_map] at srt
      exact srt
end
end Dl

set_option Elab.async false
set_option linter.all false
set_option maxRecDepth 100000
set_option maxHeartbeats 2000000
/-! D21: enumerate of an owned list. -/
namespace Dl
open PySem PySem.Spec PyProof.Rows L2 L2.DX
theorem jok_enumOwn {K : PySem.W.Frag} {F : Hp} {a : Addr} {ds : List D} : JOk K (Ite K a) F [(a, OV.lst ds)] (enumD ds) where
  go := fun i F2 H2 e1 e2 hl hi => by
    obtain ⟨vs, hv, rs⟩ := hl (a, OV.lst ds) List.mem_cons_self
    rw [enumD_length] at hi
    exact ⟨vs, vs[i]'(by rw [rs.length]; exact hi), SqL.of hv, by simp⟩
  stop := fun F2 H2 e1 e2 hl => by
    obtain ⟨vs, hv, rs⟩ := hl (a, OV.lst ds) List.mem_cons_self
    exact ⟨vs, SqL.of hv, by rw [rs.length, enumD_length]; exact Nat.le_refl _⟩
  yld := fun i F2 H2 x H3 e1 e2 hl hi y => by
    obtain ⟨vs, hv, rs⟩ := hl (a, OV.lst ds) List.mem_cons_self
    obtain ⟨T, z, rfl, hT, rfl, y⟩ := y
    rw [enumD_length] at hi
    obtain ⟨d, hd, r⟩ := rs.get' (y vs (SqL.of hv))
    have ed : ds[i] = d := by
      rw [List.getElem?_eq_getElem hi] at hd
      exact Option.some.inj hd
    refine ⟨_, enumD_get hi, .inr ⟨T, _, hT, rfl, ?_⟩⟩
    rw [ed]
    exact pair_rep (e2.free hT) (.int _) r
section
variable {M : Mach} {X : Cx} {N : List Str} {sc : Scope} {vb lb gb : Str → Bool} {B : Bs} {G : Sl} {O : Own} {a : Expr} {pos p tpos : Pos} {d1 : D} {ds : List D}
theorem wiv_enumOwn {elts : List Expr} {kk : Nat} {q : Addr} (C : Cxt M X N sc vb lb gb) (hm : M.mg "enumerate" = none) (hg : gb "enumerate" = true) (h : PEv X B G O a (.obj q)) (hq : (q, OV.lst ds) ∈ O) (sa : Plain1 a := by exact fun _ _ => star_cons rfl) :
    WIv X B G O (.Tuple elts kk tpos) (.Call (.Name "enumerate" p) [a] [] pos) (enumD ds) [(q, OV.lst ds)] := fun F σ H S R k =>
  semI (pi_enum (C.gl _ hg).1 (by rw [C.mg]; exact hm) pa_sem (sa _ _)) ((pa_consv h pa_nilv (sa _ _) : PAv X B G O [a] [.obj q]) F σ H S _ fun vs F1 H1 xs O1 S1 e1 r1 p1 => by
    obtain ⟨rfl, rfl⟩ := p1
    obtain ⟨v, rfl, rv⟩ := reps1 r1
    cases rv
    obtain ⟨_, us, hv, rs⟩ := S1.own _ hq
    exact ⟨_, _, rfl, SqL.of hv, k _ F1 H1 _ _ O1 S1 e1 jok_enumOwn ⟨rfl, rfl, rfl⟩⟩)
theorem PNv.to {e : Expr} {xs ys : List D} (h : PNv X B G O e xs) (k : xs = ys) : PNv X B G O e ys := k ▸ h
/-- enumerate of what is frozen or owned -/
def lkD (d : D) (ds : List D) : Own := match d with
  | .obj a => [(a, .lst ds)]
  | _ => []
theorem lkD_in (it : ItemsL O d1 ds) : ∀ p ∈ lkD d1 ds, p ∈ O := by
  cases it with
  | lst => exact fun _ hp => (List.not_mem_nil hp).elim
  | own hq => exact fun p hp => by rw [List.mem_singleton.mp hp]; exact hq
theorem wiv_enumI {elts : List Expr} {kk : Nat} (C : Cxt M X N sc vb lb gb) (hm : M.mg "enumerate" = none) (hg : gb "enumerate" = true) (h : PEv X B G O a d1) (it : ItemsL O d1 ds) (sa : Plain1 a := by exact fun _ _ => star_cons rfl) :
    WIv X B G O (.Tuple elts kk tpos) (.Call (.Name "enumerate" p) [a] [] pos) (enumD ds) (lkD d1 ds) := by
  cases it with
  | lst => exact wiv_enumL C hm hg h sa
  | own hq => exact wiv_enumOwn C hm hg h hq sa
theorem wiv_items {tg : Expr} (h : PEv X B G O a d1) (it : ItemsL O d1 ds) : WIv X B G O tg a ds (lkD d1 ds) := by
  cases it with
  | lst => exact wiv_lst h
  | own hq => exact wiv_own h hq
end
theorem enumD_mapE {α : Type} (f : α → D) (xs : List α) : enumD (xs.map f) = (xs.mapIdx fun i x => (i, x)).map fun x => .tup [.int (x.1 : Int), f x.2] := by
  unfold enumD
  refine List.ext_getElem? fun j => ?_
  rw [List.getElem?_mapIdx, List.getElem?_map, List.getElem?_map, List.getElem?_mapIdx]
  cases xs[j]? <;> rfl
end Dl

set_option Elab.async false
set_option linter.all false
set_option maxRecDepth 100000
set_option maxHeartbeats 2000000
/-! D22: what ends an iteration while an exception is handled. -/
namespace Hz
open PySem PySem.Spec PyProof.Rows L2 HotX
section
variable {prog : Program} {w : World} {A : Around} {E : Value → Shared → Prop} {s : Shared}
/-- the exception that is handled stays when another object is written -/
theorem hot_at {x1 it : Addr} {h h' : Heap} (hot : HotAt A x1 h) (k : ∀ b o, b ≠ it → h.get? b = some o → h'.get? b = some o) (hne : x1 ≠ it) : HotAt A x1 h' :=
  let ⟨hh, o1, vs1, h1, d1, c1⟩ := hot; ⟨hh, o1, vs1, k _ _ hne h1, d1, c1⟩
/-- a new StopIteration, raised while x1 is handled -/
theorem stop_hot {α : Type} {x1 : Addr} {Q : α → Shared → Prop} (hot : HotAt A x1 s.heap)
    (hE : ∀ h' e, (∀ b o, s.heap.get? b = some o → h'.get? b = some o) → (∃ o, h'.get? e = some o ∧ o.cls = .type "StopIteration") → E (.ref e) { s with heap := h' }) :
    wpAny (model prog w) A (newExc (.type "StopIteration") [] >>= fun e => (raiseNew e : Sem α)) Q E s := by
  obtain ⟨hh, o1, vs1, h1, d1, c1⟩ := hot
  have two : ∀ (o o' : Obj) b u, s.heap.get? b = some u → ((s.heap.push o).push o').get? b = some u := fun o o' b u z => Heap.get?_push_of_some _ (Heap.get?_push_of_some _ z)
  refine wpAny_bind ?_; simp only [newExc, newTuple]; refine wpAny_bind (wpAny_newObj_type ?_ (by size_fits))
  refine wpAny_bind (m := firstArgMember _ _) (wpAny_of_eq (a := .none) (by simp only [firstArgMember]; rfl) (wpAny_newObj_type ?_ (by size_fits)))
  refine raiseNew_hot ⟨hh, o1, vs1, two _ _ _ _ h1, d1, c1⟩ (Nat.ne_of_lt (Heap.lt_size (Heap.get?_push_of_some _ h1))) (Heap.get?_push_size _ rfl) rfl (by first | (simp; done) | (simp; omega)) (hE _ _ (fun b o z => ?_) ⟨_, Heap.get?_update_self _ (Heap.get?_push_size _ rfl) rfl, rfl⟩)
  exact (Heap.get?_update_other _ _ (Nat.ne_of_gt (Heap.lt_size (Heap.get?_push_of_some _ z)))).trans (two _ _ b o z)
theorem list_end_hot {it l x1 : Addr} {i : Nat} {items} {Q : Value → Shared → Prop} (hot : HotAt A x1 s.heap) (hne : x1 ≠ it) (hit : s.heap.IsListIter it l i) (hl : s.heap.IsList l items) (hx : items[i]? = none)
    (hE : ∀ h' e, Heap.ExtBut it s.heap h' → (∃ o, h'.get? e = some o ∧ o.cls = .type "StopIteration") → E (.ref e) { s with heap := h' }) : wpAny (model prog w) A (Builtin.SmallTypes.nextOf (.ref it)) Q E s := by
  have ty := hit.typeIs
  obtain ⟨o, ho, hc, hd⟩ := hit; obtain ⟨ol, hol, _, nl, hdl⟩ := hl
  unfold Builtin.SmallTypes.nextOf
  refine wpAny_bind (wpAny_callSpecial?_slot (name := Str.ofString "__next__") ty slot_listiter_next (wpAny_call_entry slot_listiter_next ty entry_listiter_next ?_ (args_listiter_next _)))
  show wpAny _ _ (field _ 0 >>= _) _ _ _
  refine wpAny_bind (wpAny_field ho hd (x := .ref l) rfl ?_)
  show wpAny _ _ (if (Value.ref l == Value.none) = true then _ else _) _ _ _
  rw [if_neg (show ¬((Value.ref l == Value.none) = true) from Bool.false_ne_true)]
  show wpAny _ _ (field _ 1 >>= _) _ _ _
  refine wpAny_bind (wpAny_field ho hd (x := .int _ 0) rfl ?_)
  show wpAny _ _ (seqItems? _ >>= _) _ _ _
  refine wpAny_bind (wpAny_seqItems hol hdl ?_)
  simp only [Int.toNat_natCast, hx]
  refine wpAny_bind (wpAny_rule (wpAny_bind (wpAny_setField ho hd (by simp) ?_)))
  have sb := (Heap.SameBut.update (h := s.heap) (a := it) (f := Obj.mapFields (·.setIfInBounds 0 .none))).extBut
  exact stop_hot (hot_at (show HotAt A.in1 x1 s.heap from hot) (fun b o nb e => sb b o nb e) hne) fun h' e k he => hE _ _ (fun b o nb q => k b o (sb b o nb q)) he
theorem tuple_end_hot {it t x1 : Addr} {i : Nat} {items} {Q : Option Value → Shared → Prop} (hot : HotAt A x1 s.heap) (hne : x1 ≠ it) (hit : IsTupIter s.heap it t i) (ht : IsTup s.heap t items) (hx : items[i]? = none)
    (hQ : ∀ h', Heap.ExtBut it s.heap h' → Q none { s with heap := h' }) : wpAny (model prog w) A (pyNext (.ref it)) Q E s := by
  have ty := hit.typeIs
  obtain ⟨o, ho, hc, hd⟩ := hit; obtain ⟨ol, hol, _, nl, hdl⟩ := ht
  unfold pyNext
  refine wpAny_bind (wpAny_attempt (wpAny_callSpecial?_slot (name := Str.ofString "__next__") ty slot_tupleiter_next (wpAny_call_entry slot_tupleiter_next ty entry_tupleiter_next ?_ (args_tupleiter_next _))))
  show wpAny _ _ (field _ 0 >>= _) _ _ _
  refine wpAny_bind (wpAny_field ho hd (x := .ref t) rfl ?_)
  show wpAny _ _ (if (Value.ref t == Value.none) = true then _ else _) _ _ _
  rw [if_neg (show ¬((Value.ref t == Value.none) = true) from Bool.false_ne_true)]
  show wpAny _ _ (field _ 1 >>= _) _ _ _
  refine wpAny_bind (wpAny_field ho hd (x := .int _ 0) rfl ?_)
  show wpAny _ _ (seqItems? _ >>= _) _ _ _
  refine wpAny_bind (wpAny_seqItems hol hdl ?_)
  simp only [Int.toNat_natCast, hx]
  refine wpAny_bind (wpAny_rule (wpAny_bind (wpAny_setField ho hd (by simp) ?_)))
  have sb := (Heap.SameBut.update (h := s.heap) (a := it) (f := Obj.mapFields (·.setIfInBounds 0 .none))).extBut
  refine stop_hot (hot_at (show HotAt A.in1 x1 s.heap from hot) (fun b o nb e => sb b o nb e) hne) fun h' e k ⟨oe, he, hce⟩ => ?_
  exact wpAny_bind (wpAny_isInstance (T := "StopIteration") (b := true) ⟨oe, he, hce⟩ isSubtype_stop (wpAny_pure (hQ _ fun b o nb q => k b o (sb b o nb q))))
/-- a tuple of the right length goes to its targets -/
theorem targets_hot {env : Env} {elts : List Expr} {k} {pos : Pos} {t x1 : Addr} {items : Array Value} {Q : Unit → Shared → Prop} (hot : HotAt A x1 s.heap) (ht : IsTup s.heap t items)
    (hn : (assignEach elts env).length = items.size) (hstar : (assignEach elts env).findIdx? (·.1) = none)
    (h : ∀ h', Heap.ExtBut s.heap.objs.size s.heap h' → wpAny (model prog w) A (assignInOrder ((assignEach elts env).map (·.2)) items.toList) Q E { s with heap := h' }) :
    wpAny (model prog w) A (assign (.Tuple elts k pos) env (.ref t)) Q E s := by
  obtain ⟨hh, o1, vs1, h1, d1, c1⟩ := hot
  have lt1 : x1 ≠ s.heap.objs.size := Nat.ne_of_lt (Heap.lt_size h1)
  have ltT : t ≠ s.heap.objs.size := let ⟨o, ho, _⟩ := ht; Nat.ne_of_lt (Heap.lt_size ho)
  rw [assign_Tuple]
  refine wpAny_bind (wpAny_standAt ?_)
  unfold unpack; rw [hn, hstar]; refine wpAny_bind (wpAny_holding ?_)
  unfold unpackItems notIterableAtAll
  refine wpAny_bind (wpAny_bind (wpAny_specialOf ht.typeIs slot_tuple_iter.lookup (wpAny_pure ?_)))
  simp only [Bool.false_eq_true, if_false]
  refine wpAny_bind (wpAny_holding (iter_tuple ht ?_)); refine wpAny_bind (wpAny_holding (draw_tuple ltT items.size 0 _ _ ⟨_, Heap.get?_push_size _ rfl, rfl, rfl⟩ (ht.push _) (by omega) fun g it' sb => ?_))
  rw [List.drop_zero, List.take_of_length_le (show items.toList.length ≤ items.size by simp), if_neg (by simp)]
  refine wpAny_bind (wpAny_holding (tuple_end_hot (x1 := x1) ⟨hh, o1, vs1, sb.extBut _ _ lt1 (Heap.get?_push_of_some _ h1), d1, c1⟩ lt1 it' ((ht.push _).extBut sb.extBut ltT) (by simp) fun g' kb => ?_))
  simp only [Option.isSome_none, Bool.false_eq_true, if_false]
  exact wpAny_pure (h g' fun b o nb e => kb b o nb (sb.extBut b o nb (Heap.get?_push_of_some _ e)))
/-- zip at the end of its first list -/
theorem zip_end_hot {z TI TO i1 i2 l1 l2 x1 : Addr} {k1 : Nat} {xs : Array Value} {Q : Option Value → Shared → Prop} (hot : HotAt A x1 s.heap) (nz : x1 ≠ z) (ni : x1 ≠ i1) (D : ZipApart z TI TO i1 i2 l1 l2)
    (hz : IsZip s.heap z TI TO .none) (hTI : IsPair s.heap TI (.ref i1) (.ref i2)) (h1 : s.heap.IsListIter i1 l1 k1) (hl1 : s.heap.IsList l1 xs) (hend : xs[k1]? = none)
    (hQ : ∀ h', (∀ c o, c ≠ z → c ≠ i1 → s.heap.get? c = some o → h'.get? c = some o) → Q none { s with heap := h' }) : wpAny (model prog w) A (pyNext (.ref z)) Q E s := by
  have ty : s.TypeIs (.ref z) "zip" := ⟨_, hz, rfl⟩
  unfold pyNext
  refine wpAny_bind (wpAny_attempt (wpAny_callSpecial?_slot (name := Str.ofString "__next__") ty F.slot_zip_next (wpAny_call_entry F.slot_zip_next ty F.entry_zip_next ?_ (F.args_zip_next_1 _))))
  show wpAny _ _ (field _ 2 >>= _) _ _ _; refine wpAny_bind (wpAny_field hz rfl (x := .bool false) rfl ?_)
  show wpAny _ _ (field _ 3 >>= _) _ _ _; refine wpAny_bind (wpAny_field hz rfl (x := .ref TI) rfl (wpAny_bind (wpAny_seqItems hTI rfl ?_)))
  show wpAny _ _ (Builtin.SmallTypes.ownedTupleIsFree _ >>= _) _ _ _
  refine wpAny_bind ?_; unfold Builtin.SmallTypes.ownedTupleIsFree; refine wpAny_bind (wpAny_field hz rfl (x := .none) rfl (wpAny_pure ?_))
  simp only [if_true]
  refine wpAny_bind (wpAny_rule (wpAny_bind (wpAny_field hz rfl (x := .ref TO) rfl (wpAny_bind (wpAny_setField_rec hz (by simp) fun g1 hz1 sb1 => ?_)))))
  refine wpAny_bind ?_; simp only [List.zipIdx_cons, List.zipIdx_nil, List.forIn_cons, List.forIn_nil]; refine wpAny_bind (wpAny_bind (wpAny_onRaise ?_))
  show wpAny _ _ (Builtin.SmallTypes.nextOf (.ref i1) >>= _) _ _ _
  refine wpAny_bind (list_end_hot (hot_at (show HotAt A.in1 x1 s.heap from hot) (fun c o nb e => sb1.extBut c o nb e) nz) ni (h1.extBut sb1.extBut D.i1z) (hl1.extBut sb1.extBut D.l1z) hend fun g2 e k2 ⟨oe, he, hce⟩ => ?_)
  have hz2 := k2 _ _ D.i1z.symm hz1
  have nez : e ≠ z := fun q => by rw [q, hz2] at he; cases he; simp at hce
  refine wpAny_setField_rec hz2 (by simp) fun g3 _ sb3 => ?_
  refine wpAny_bind (wpAny_isInstance (T := "StopIteration") (b := true) ⟨oe, sb3.extBut _ _ nez he, hce⟩ isSubtype_stop (wpAny_pure (hQ g3 fun c o n1 n2 q => ?_)))
  exact sb3.extBut _ _ n1 (k2 _ _ n2 (sb1.extBut _ _ n1 q))
end
end Hz

set_option Elab.async false
set_option linter.all false
set_option maxRecDepth 100000
set_option maxHeartbeats 2000000
/-! D23: [x for x, y in zip(a, b) if y] while an exception is handled. -/
namespace Hz
open PySem PySem.Spec PyProof.Rows L2 HotX L2H
theorem hot_of {X : Cx} {p : Addr × Obj} {pins : List (Addr × Obj)} {σ : L2.St} {H : Hp} {s : Shared} (hot : Hot1 X.A p) (hp : p ∈ X.pn ++ pins) (I : Inv X pins σ H s) : HotAt X.A p.1 s.heap :=
  let ⟨hh, vs, e, c⟩ := hot; ⟨hh, p.2, vs, (I.pin p hp).1, e, c⟩
/-- the words whose flags are true -/
def kept (ws : List Str) (gs : List Bool) : List Str := ((ws.zip gs).filter (·.2)).map (·.1)
theorem kept_step {ws : List Str} {gs : List Bool} {i : Nat} {a : Str} {g : Bool} (h1 : ws[i]? = some a) (h2 : gs[i]? = some g) : kept (ws.take (i + 1)) (gs.take (i + 1)) = kept (ws.take i) (gs.take i) ++ if g then [a] else [] := by
  unfold kept
  have l1 : (ws.take i).length = (gs.take i).length := by
    have a1 := (List.getElem?_eq_some_iff.mp h1).1; have a2 := (List.getElem?_eq_some_iff.mp h2).1
    rw [List.length_take, List.length_take]; omega
  rw [List.take_add_one, List.take_add_one, h1, h2]
  show List.map _ (List.filter _ ((ws.take i ++ [a]).zip (gs.take i ++ [g]))) = _
  rw [List.zip_append l1, List.filter_append, List.map_append]
  cases g <;> rfl
theorem kept_le (ws : List Str) (gs : List Bool) : (kept ws gs).length ≤ ws.length := by
  unfold kept
  rw [List.length_map]
  exact Nat.le_trans (List.length_filter_le _ _) (by rw [List.length_zip]; exact Nat.min_le_left _ _)
def tPick (ta : TA) : TE := fun σ H Q => ta σ H fun vs H1 => ∃ (la lb : Addr) (ws : List Str) (gs : List Bool), vs = [.ref la, .ref lb] ∧ H1 la = some (.lst (ws.map V.str)) ∧ H1 lb = some (.lst (gs.map V.bl)) ∧ ws.length = gs.length ∧
  ∀ (D : Addr) (H' : Hp), (∀ b o, H1 b = some o → H' b = some o) → H1 D = none → H' D = some (.lst ((kept ws gs).map V.str)) → Q (.ref D) H'
theorem pick_core {X : Cx} {pins : List (Addr × Obj)} {s : Shared} {σ : L2.St} {H : Hp} {Q : VK} {use : Option (Value → Sem Unit)} {Qf : Value → Shared → Prop} {pos' : Pos} {p : Addr × Obj} {w g : Str} {iw ig kk : Nat} {scope : Scope} {e1 e2 : Expr} {ta : TA} {p1 p2 p3 p4 tp pz pc pos : Pos} (hot : Hot1 X.A p) (hp : p ∈ X.pn) (hN : X.N.Nodup) (ok : BlkOk X.N X.env.scope scope [(w, iw), (g, ig)])
    (hw : X.N[iw]? = some w) (hg : X.N[ig]? = some g) (hwg : iw ≠ ig) (lw : (relS scope X.env.scope).names.lookup w = some .local) (lg : (relS scope X.env.scope).names.lookup g = some .local) (gz : Gl X "zip") (mz : X.mg "zip" = none)
    (ha : PA X [e1, e2] ta) (dw : (w == ("__debug__" : Str)) = false) (dw2 : (w == ("__classdict__" : Str)) = false) (dg : (g == ("__debug__" : Str)) = false) (dg2 : (g == ("__classdict__" : Str)) = false)
    (hs : starEach [e1, e2] X.env = (false, eval e1 X.env) :: starEach [e2] X.env) (hpl : (backTo pc (starEach [e2] X.env)).any (·.1) = false) (I : Inv X pins σ H s) (h : tPick ta σ H Q)
    (hRR : ∀ D C s' m H', Inv X pins σ H' s' → Q (.ref D) H' → s'.heap.Ns C m → FpOk X pins H' C → compPost (model X.prog X.w) X.A X.xe use Qf (.ref D) C (.ok .next) s') :
    wpAny (model X.prog X.w) X.A (comprehension (.ListComp (.Name w p1) [⟨.Tuple [.Name w p2, .Name g p3] kk tp, .Call (.Name "zip" pz) [e1, e2] [] pc, [.Name g p4], 0⟩] scope pos) scope X.env pos' (newList []) false (eval (.Call (.Name "zip" pz) [e1, e2] [] pc) X.env) use) Qf X.xe s := by
  have free : ∀ {pins : List (Addr × Obj)} {σ : L2.St} {H : Hp} {s : Shared}, Inv X pins σ H s → ∀ y ∈ scope.names, y.2 = .free → ∃ c, X.env.cells.lookup y.1 = some c := fun I y hy e =>
    (ok.free y hy e).elim (fun k => I.ok.has _ (.inl k)) fun k => I.ok.has _ (.inr k)
  refine wpAny_comprehension_free (use := use) rfl (fun _ => rfl) (closure_ok (free I)) ok.kind (fun y hy e => by rw [ok.uniq y hy, e]) ?_
  refine Call_ (ld_blt I gz mz PyProof.Rows.boot_zip (PyProof.Rows.callWith_type1 (thn (ha.run pc pins s σ H _ I h) fun us s1 ⟨vs, H1, I1, r1, la, lb, ws, gs, ev, eA, eB, hlen, q⟩ => ?_) hs hpl))
  subst ev
  obtain rfl : us = [.ref la, .ref lb] := by
    cases r1 with
    | cons a r => cases r with
      | cons b r => cases r; rw [show _ = _ from a, show _ = _ from b]
  obtain ⟨its, rv, pa, _⟩ := I1.list (.inl (.inl eA))
  obtain ⟨jts, rw', pb, _⟩ := I1.list (.inl (.inl eB))
  have lA : its.length = ws.length := by rw [← rv.length, List.length_map]
  have lB : jts.length = ws.length := by rw [← rw'.length, List.length_map, hlen]
  refine call_zip_2 pa.isList pb.isList fun g2 hz hTI hTO hi1 hi2 hsz hk => wpAny_pyIter_zip hz ?_
  have Dz := PySem.W.ktu_apart s1.heap.objs.size la lb pa.lt pb.lt
  generalize hn : s1.heap.objs.size = n at hz hTI hTO hi1 hi2 hsz Dz ⊢
  have I2 : Inv X pins σ H1 { s1 with heap := g2 } := I1.kept (t' := s1.toks) hk
  have hfp : ∀ b : Nat, b ∈ ([n + 4, n + 2, n + 3, n, n + 1] : List Nat) → n ≤ b ∧ b < n + 5 := fun b hb => by
    have e : b = n + 4 ∨ b = n + 2 ∨ b = n + 3 ∨ b = n ∨ b = n + 1 := by simpa using hb
    omega
  have hpl : p.1 < n := by rw [← hn]; exact Heap.lt_size (I1.pin p (List.mem_append_left _ hp)).1
  have hpne : ∀ b : Nat, b ∈ ([n + 4, n + 2, n + 3, n, n + 1] : List Nat) → p.1 ≠ b := fun b hb e => by
    have z := (hfp b hb).1
    rw [← e] at z
    exact absurd (Nat.lt_of_lt_of_le hpl z) (Nat.lt_irrefl _)
  generalize hfp' : [n + 4, n + 2, n + 3, n, n + 1] = fp at hfp hpne
  refine wpAny_newObj_type (newEnv_comp ?_) (by show 0 ≤ sizeLine; decide)
  -- the new list, the block
  generalize hD : g2.objs.size = D
  have hDn : H1 D = none := I2.hok.fresh (Nat.le_of_eq hD)
  have nD : ∀ b : Nat, b ∈ fp → b ≠ D := fun b hb e => by have := (hfp b hb).2; omega
  generalize hs3 : ({ s1 with heap := g2.push { cls := .type "list", data := .seq ([] : List Value).toArray } } : Shared) = s3
  have h3 : s3.heap = g2.push { cls := .type "list", data := .seq ([] : List Value).toArray } := by rw [← hs3]
  have I3 : Inv X pins σ (upd H1 D (.lst [])) s3 := by
    rw [← hs3]
    exact I2.laid (t' := s1.toks) (fun b o e => Heap.get?_push_of_some _ e) (Nat.le_of_eq hD) ⟨Nat.zero_le _, [], 0, .nil, by rw [← hD]; exact Heap.get?_push_size _ rfl⟩
  have fr1 : ∀ b ∈ fp, H1 b = none := fun b hb => I1.hok.fresh (by rw [hn]; exact (hfp b hb).1)
  have f3 : ∀ b ∈ fp, FpOk X pins (upd H1 D (.lst [])) b ∧ b < s3.heap.objs.size := fun b hb =>
    ⟨I1.fpOk (by rw [hn]; exact (hfp b hb).1) (by rw [upd_ne (nD b hb)]; exact fr1 b hb), by rw [h3, Heap.size_push, hsz]; exact Nat.lt_succ_of_lt (hfp b hb).2⟩
  have I4 := block_start I3 ok hN f3
  show codeAny _ _ (.compStart _ 0 (.ref (n + 4)) (.ref D) (compEnvC scope (cellsFrom (s3.heap.objs.size + 1) scope.names (cloFrom X.env.cells scope.names [])) s3.heap.objs.size X.env)) (compPost (model X.prog X.w) X.A X.xe use Qf (.ref D) s3.heap.objs.size) { s3 with heap := pushCells (s3.heap.push { cls := .type "dict", data := .dict #[] }) scope.names }
  generalize hce : compEnvC scope (cellsFrom (s3.heap.objs.size + 1) scope.names (cloFrom X.env.cells scope.names [])) s3.heap.objs.size X.env = ce at I4 ⊢
  have cL : ce.locals = s3.heap.objs.size := by subst hce; rfl
  have cS : ce.scope = relS scope X.env.scope := by subst hce; rfl
  generalize hH3 : upd H1 D (.lst []) = H3 at I3 I4 f3
  generalize hs4 : ({ s3 with heap := pushCells (s3.heap.push { cls := .type "dict", data := .dict #[] }) scope.names } : Shared) = s4 at I4 ⊢
  have up4 : ∀ b o, g2.get? b = some o → s4.heap.get? b = some o := fun b o e => by
    rw [← hs4]
    exact pushCells_keeps _ _ _ _ (Heap.get?_push_of_some _ (by rw [h3]; exact Heap.get?_push_of_some _ e))
  generalize hB : X.blk s3 H3 scope ce fp = BX at I4
  have P1 := I1.pin p (List.mem_append_left _ hp)
  have H3p : H3 p.1 = none := by
    rw [← hH3, upd_ne (Nat.ne_of_lt (Nat.lt_of_lt_of_le hpl (by rw [← hD, hsz]; exact Nat.le_add_right n 5)))]
    exact P1.2.1
  have I5 : Inv BX [p] (wipe σ [iw, ig]) H3 s4 := I4.pins_of fun q hq => by
    obtain rfl : q = p := by simpa using hq
    refine ⟨up4 _ _ (hk _ _ P1.1), H3p, ?_, ?_, P1.2.2.2.2⟩
    · subst hB
      show q.1 ≠ ce.locals
      rw [cL, h3, Heap.size_push, hsz]
      exact Nat.ne_of_lt (Nat.lt_of_lt_of_le hpl (Nat.le_add_right n 6))
    · subst hB
      exact fun hm => (List.mem_cons.mp (I1.stkSub q.1 hm)).elim P1.2.2.1 P1.2.2.2.1
  -- the loop
  have eN : BX.N = X.N := by subst hB; rfl
  have eP : BX.prog = X.prog ∧ BX.w = X.w ∧ BX.A = X.A ∧ BX.K = X.K := by subst hB; exact ⟨rfl, rfl, rfl, rfl⟩
  have eE : BX.env = ce := by subst hB; rfl
  have eX : BX.ex = fp := by subst hB; rfl
  have eP0 : BX.pn = [] := by subst hB; rfl
  have Lw : BX.env.scope.names.lookup w = some .local := by rw [eE, cS]; exact lw
  have Lg : BX.env.scope.names.lookup g = some .local := by rw [eE, cS]; exact lg
  have pgs : PG BX (.Name w p2) (gName iw) := pg_name (by rw [eN]; exact hN) (by rw [eN]; exact hw) (.inl Lw) (.inr Lw)
  have pgg : PG BX (.Name g p3) (gName ig) := pg_name (by rw [eN]; exact hN) (by rw [eN]; exact hg) (.inl Lg) (.inr Lg)
  have pgT := pgs_cons pgs (pgs_cons pgg pgs_nil)
  have pv : PE BX (.Name w p1) (tVar iw) := pe_var (by rw [eN]; exact hw) (.inl Lw) dw dw2
  have pt : PTs BX [.Name g p4] (tB (tVar ig)) := pts_one (pt_val (pe_var (by rw [eN]; exact hg) (.inl Lg) dg dg2))
  have fpok : ∀ {H5 : Hp} {s5 : Shared} {σ5 : L2.St}, Inv BX [p] σ5 H5 s5 → (∀ b ∈ fp, H5 b = none) → ∀ b ∈ fp, FpOk BX [p] H5 b := fun {H5 s5 σ5} J hz b hb =>
    ⟨hz b hb, (J.ok.exf b (by rw [eX]; exact hb)).1, J.ok.exfs b (by rw [eX]; exact hb), .inl (by rw [eX]; exact hb), (J.ok.exf b (by rw [eX]; exact hb)).2, fun q hq => by
      rw [eP0] at hq
      obtain rfl : q = p := by simpa using hq
      exact hpne b hb⟩
  subst hB
  have app : BlkOk X.N X.env.scope scope [(w, iw), (g, ig)] := ok
  have loop : codeAny (model X.prog X.w) X.A (.compLoop (.ListComp (.Name w p1) [⟨.Tuple [.Name w p2, .Name g p3] kk tp, .Call (.Name "zip" pz) [e1, e2] [] pc, [.Name g p4], 0⟩] scope pos) 0 (.ref (n + 4)) (.ref D) ce) (compPost (model X.prog X.w) X.A X.xe use Qf (.ref D) s3.heap.objs.size) s4 := by
    refine compLoop_any (fun m s' => ∃ (i : Nat) (H5 : Hp), m = ws.length - i ∧ i ≤ ws.length ∧ Inv (X.blk s3 H3 scope ce fp) [p] (wipe σ [iw, ig]) H5 s' ∧ (IsZip s'.heap (n + 4) (n + 2) (n + 3) .none ∧ IsPair s'.heap (n + 2) (.ref n) (.ref (n + 1)) ∧ (∃ x y, IsPair s'.heap (n + 3) x y) ∧ s'.heap.IsListIter n la i ∧ s'.heap.IsListIter (n + 1) lb i) ∧
      (∀ b ∈ fp, H5 b = none) ∧ (∀ b o, H1 b = some o → H5 b = some o) ∧ H5 D = some (.lst ((kept (ws.take i) (gs.take i)).map V.str))) ?_ ws.length ⟨0, H3, rfl, Nat.zero_le _, I5, ⟨up4 _ _ hz, up4 _ _ hTI, ⟨_, _, up4 _ _ hTO⟩, hi1.at fun o e => up4 _ _ e, hi2.at fun o e => up4 _ _ e⟩, fun b hb => (f3 b hb).1.1, fun b o e => by rw [← hH3, upd_ne (ne_of_none e hDn)]; exact e, by rw [← hH3, upd_same]; rfl⟩
    rintro m s5 ⟨i, H5, rfl, hi, J5, ⟨z5, t5, ⟨x5, y5, o5⟩, a5, b5⟩, n5, k5, d5⟩
    have hot5 : HotAt X.A p.1 s5.heap := hot_of (X := X.blk s3 H3 scope ce fp) hot (by simp) J5
    obtain ⟨its5, rv5, pa5, _⟩ := J5.list (.inl (.inl (k5 _ _ eA)))
    obtain ⟨jts5, rw5, pb5, _⟩ := J5.list (.inl (.inl (k5 _ _ eB)))
    have lA5 : its5.length = ws.length := by rw [← rv5.length, List.length_map]
    have lB5 : jts5.length = ws.length := by rw [← rw5.length, List.length_map, hlen]
    have mem4 : n + 4 ∈ fp := by rw [← hfp']; simp
    have mem0 : n ∈ fp := by rw [← hfp']; simp
    by_cases hlt : i < ws.length
    · have hg' : i < gs.length := by rw [← hlen]; exact hlt
      generalize ew : ws[i] = wd
      generalize eg : gs[i] = fl
      have kw : ws[i]? = some wd := by rw [List.getElem?_eq_getElem hlt, ew]
      have kg : gs[i]? = some fl := by rw [List.getElem?_eq_getElem hg', eg]
      obtain ⟨u, hu, ru⟩ := rv5.get (show (ws.map V.str)[i]? = some (.str wd) by rw [List.getElem?_map, kw] <;> rfl)
      obtain ⟨u2, hu2, ru2⟩ := rw5.get (show (gs.map V.bl)[i]? = some (.bl fl) by rw [List.getElem?_map, kg] <;> rfl)
      refine wpAny_pyNext_zip_item Dz z5 t5 o5 a5 b5 pa5.isList pb5.isList (x := u) (y := u2) (by simpa using hu) (by simpa using hu2) fun h6 z6 o6 a6 b6 T6 sz6 k6 => ?_
      refine wpAny_letOwnedTupleGo_zip (s := { s5 with heap := h6 }) z6 fun h7 z7 sb => ?_
      generalize eT : s5.heap.objs.size = T at T6 sz6
      have lt5 : ∀ b : Nat, b ∈ fp → b < T := fun b hb => by
        rw [← hfp'] at hb
        rcases (show b = n + 4 ∨ b = n + 2 ∨ b = n + 3 ∨ b = n ∨ b = n + 1 by simpa using hb) with e | e | e | e | e
        · rw [e, ← eT]; exact Heap.lt_size z5
        · rw [e, ← eT]; exact Heap.lt_size t5
        · rw [e, ← eT]; exact Heap.lt_size o5
        · rw [e, ← eT]; obtain ⟨_, q, _⟩ := a5; exact Heap.lt_size q
        · rw [e, ← eT]; obtain ⟨_, q, _⟩ := b5; exact Heap.lt_size q
      have T7 : h7.get? T = some { cls := .type "tuple", data := .seq #[u, u2] } := (sb.2 _ (Nat.ne_of_gt (lt5 _ mem4))).trans T6
      have hT5 : H5 T = none := J5.hok.fresh (Nat.le_of_eq eT)
      have k57 : ∀ b o, b ∉ fp → s5.heap.get? b = some o → h7.get? b = some o := fun b o nb e => by
        rw [← hfp'] at nb
        have nb' : b ≠ n + 4 ∧ b ≠ n + 2 ∧ b ≠ n + 3 ∧ b ≠ n ∧ b ≠ n + 1 := by simpa using nb
        exact (sb.2 b nb'.1).trans (k6 b o nb'.1 nb'.2.2.1 nb'.2.2.2.1 nb'.2.2.2.2 e)
      have J7 : Inv (X.blk s3 H3 scope ce fp) [p] (wipe σ [iw, ig]) (upd H5 T (.tup [.str wd, .bl fl])) { s5 with heap := h7 } :=
        J5.turnedNew (t' := s5.toks) (ch := fp) k57 (fpok J5 n5) (Nat.le_of_eq eT) ⟨by show 2 ≤ sizeLine; decide, [u, u2], .cons ru (.cons ru2 .nil), ⟨_, T7, rfl, _, rfl⟩⟩
      have n7 : ∀ b ∈ fp, (upd H5 T (.tup [.str wd, .bl fl])) b = none := fun b hb => by rw [upd_ne (Nat.ne_of_lt (lt5 b hb))]; exact n5 b hb
      have st7 : IsZip h7 (n + 4) (n + 2) (n + 3) .none ∧ IsPair h7 (n + 2) (.ref n) (.ref (n + 1)) ∧ (∃ x y, IsPair h7 (n + 3) x y) ∧ h7.IsListIter n la (i + 1) ∧ h7.IsListIter (n + 1) lb (i + 1) :=
        ⟨z7, (sb.2 _ Dz.TIz).trans (k6 _ _ Dz.TIz Dz.TITO Dz.TIi1 Dz.TIi2 t5), ⟨u, u2, (sb.2 _ Dz.TOz).trans o6⟩, a6.at fun o q => (sb.2 _ Dz.i1z).trans q, b6.at fun o q => (sb.2 _ Dz.i2z).trans q⟩
      have ob7 : ∀ b ∈ fp, ∃ o, h7.get? b = some o ∧ ∀ v, o.data ≠ .cell v := fun b hb => by
        obtain ⟨q1, q2, ⟨x, y, q3⟩, ⟨oa, q4, _, d4⟩, ⟨ob, q5, _, d5'⟩⟩ := st7
        rw [← hfp'] at hb
        rcases (show b = n + 4 ∨ b = n + 2 ∨ b = n + 3 ∨ b = n ∨ b = n + 1 by simpa using hb) with e | e | e | e | e
        · rw [e]; exact ⟨_, q1, fun v q => nomatch q⟩
        · rw [e]; exact ⟨_, q2, fun v q => nomatch q⟩
        · rw [e]; exact ⟨_, q3, fun v q => nomatch q⟩
        · rw [e]; exact ⟨oa, q4, fun v q => by rw [d4] at q; cases q⟩
        · rw [e]; exact ⟨ob, q5, fun v q => by rw [d5'] at q; cases q⟩
      have J7' := J7.pinned (fpok J7 n7) ob7
      have hot7 : HotAt X.A p.1 h7 := hot_of (X := X.blk s3 H3 scope ce fp) (s := { s5 with heap := h7 }) hot (by simp) J7
      obtain ⟨ts, rv7, ht7, _⟩ := J7'.tuple (.inl (.inl upd_same))
      refine targets_hot (s := { s5 with heap := h7 }) hot7 ht7 (by have := rv7.length; simp at this ⊢; exact this) rfl fun h8 eb => ?_
      have J8 : Inv (X.blk s3 H3 scope ce fp) ([p] ++ pinsAt fp h7) (wipe σ [iw, ig]) (upd H5 T (.tup [.str wd, .bl fl])) { s5 with heap := h8 } := J7'.kept (t' := s5.toks) fun b o e => eb b o (Nat.ne_of_lt (Heap.lt_size e)) e
      have fin : ∀ {s' : Shared} {H' : Hp} {σ8 : L2.St}, Inv (X.blk s3 H3 scope ce fp) ([p] ++ pinsAt fp h7) σ8 H' s' → σ8 = ((wipe σ [iw, ig]).set iw (some (.str wd))).set ig (some (.bl fl)) → (∀ b o, H1 b = some o → H' b = some o) → H' D = some (.lst ((kept (ws.take (i + 1)) (gs.take (i + 1))).map V.str)) →
          ∃ m, m < ws.length - i ∧ ∃ (i : Nat) (H5 : Hp), m = ws.length - i ∧ i ≤ ws.length ∧ Inv (X.blk s3 H3 scope ce fp) [p] (wipe σ [iw, ig]) H5 s' ∧ (IsZip s'.heap (n + 4) (n + 2) (n + 3) .none ∧ IsPair s'.heap (n + 2) (.ref n) (.ref (n + 1)) ∧ (∃ x y, IsPair s'.heap (n + 3) x y) ∧ s'.heap.IsListIter n la i ∧ s'.heap.IsListIter (n + 1) lb i) ∧
            (∀ b ∈ fp, H5 b = none) ∧ (∀ b o, H1 b = some o → H5 b = some o) ∧ H5 D = some (.lst ((kept (ws.take i) (gs.take i)).map V.str)) := fun {s' H' σ8} J eσ hk' hd' => by
        have pin' : ∀ b ∈ fp, ∀ o, h7.get? b = some o → s'.heap.get? b = some o ∧ H' b = none := fun b hb o e =>
          let z := J.pin (b, o) (List.mem_append_right _ (List.mem_append_right _ (mem_pinsAt hb e)))
          ⟨z.1, z.2.1⟩
        have mem2 : n + 2 ∈ fp := by rw [← hfp']; simp
        have mem3 : n + 3 ∈ fp := by rw [← hfp']; simp
        have mem1 : n + 1 ∈ fp := by rw [← hfp']; simp
        obtain ⟨q1, q2, ⟨x, y, q3⟩, q4, q5⟩ := st7
        refine ⟨ws.length - (i + 1), by omega, i + 1, H', rfl, hlt, J.unpinned.weak (by rw [eσ, List.length_set, List.length_set]) fun j v e => ?_, ⟨(pin' _ mem4 _ q1).1, (pin' _ mem2 _ q2).1, ⟨x, y, (pin' _ mem3 _ q3).1⟩, q4.at fun o e => (pin' _ mem0 _ e).1, q5.at fun o e => (pin' _ mem1 _ e).1⟩, fun b hb => ?_, hk', hd'⟩
        · have nj := (wipe_some e).2
          have nj' : iw ≠ j ∧ ig ≠ j := ⟨fun z => nj (by simp [z]), fun z => nj (by simp [z])⟩
          rw [eσ, List.getElem?_set_ne nj'.2, List.getElem?_set_ne nj'.1]
          exact e
        · obtain ⟨o, e, _⟩ := ob7 b hb
          exact (pin' b hb o e).2
      have hDT : D ≠ T := ne_of_none d5 hT5
      have kT : ∀ b o, H1 b = some o → (upd H5 T (.tup [.str wd, .bl fl])) b = some o := fun b o e => by rw [upd_ne (ne_of_none (k5 b o e) hT5)]; exact k5 b o e
      have dT : (upd H5 T (.tup [.str wd, .bl fl])) D = some (.lst ((kept (ws.take i) (gs.take i)).map V.str)) := by rw [upd_ne hDT]; exact d5
      have lw' : iw < (wipe σ [iw, ig]).length := by rw [wipe_length, I.len]; exact (List.getElem?_eq_some_iff.mp hw).1
      have lg' : ig < (wipe σ [iw, ig]).length := by rw [wipe_length, I.len]; exact (List.getElem?_eq_some_iff.mp hg).1
      refine thnF (pgT.run _ _ _ _ [.str wd, .bl fl] ts (fun σ' H' => σ' = ((wipe σ [iw, ig]).set iw (some (.str wd))).set ig (some (.bl fl)) ∧ H' = upd H5 T (.tup [.str wd, .bl fl])) J8 rv7 ⟨_, _, rfl, _, _, rfl, rfl, rfl, rfl⟩) fun _ s8 ⟨σ8, H8, J9, eσ, eH⟩ => ?_
      rw [eH] at J9
      refine thnF (pt.run _ s8 σ8 _ (fun b H' => b = fl ∧ H' = upd H5 T (.tup [.str wd, .bl fl])) J9 ⟨.bl fl, by rw [eσ, List.getElem?_set_self (by rw [List.length_set]; exact lg')], fl, rfl, rfl, rfl⟩) fun b s9 ⟨H9, J10, eb', eH9⟩ => ?_
      subst eb'
      rw [eH9] at J10
      have ks := kept_step kw kg
      cases b with
      | false =>
        simp only [Bool.false_eq_true, if_false]
        exact fin J10 eσ kT (by rw [ks]; simpa using dT)
      | true =>
        simp only [if_true]
        refine thnF (pv.run _ s9 σ8 _ (fun y H' => y = .str wd ∧ H' = upd H5 T (.tup [.str wd, .bl true])) J10 ⟨.str wd, by rw [eσ, List.getElem?_set_ne (Ne.symm hwg), List.getElem?_set_self lw'], rfl, rfl⟩) fun z s10 ⟨yv, H10, J11, r10, ey, eH10⟩ => ?_
        subst ey
        rw [eH10] at J11
        have hz10 : ((kept (ws.take i) (gs.take i)).map V.str).length < sizeLine := by
          rw [List.length_map]
          have z1 := kept_le (ws.take i) (gs.take i)
          have z2 : (ws.take i).length ≤ i := List.length_take_le _ _
          have z3 : (ws.map V.str).length ≤ sizeLine := by assumption
          rw [List.length_map] at z3
          omega
        refine app_ok (X := X.blk s3 H3 scope ce fp) J11 dT hz10 r10 fun s11 J12 => fin J12 eσ (fun b o e => ?_) ?_
        · rw [upd_ne (fun z => by rw [z, hDn] at e; cases e)]
          exact kT b o e
        · rw [upd_same, ks, List.map_append]
          rfl
    · have ei : i = ws.length := by omega
      refine zip_end_hot hot5 (hpne _ mem4) (hpne _ mem0) Dz z5 t5 a5 pa5.isList (by simp; omega) fun h6 k6 => ?_
      have J6 : Inv (X.blk s3 H3 scope ce fp) [p] (wipe σ [iw, ig]) H5 { s5 with heap := h6 } := J5.turnedL (t' := s5.toks) (ch := fp) (fun b o nb e => k6 b o (fun q => nb (by rw [q]; exact mem4)) (fun q => nb (by rw [q]; exact mem0)) e) (fpok J5 n5)
      have J7 : Inv X pins σ H5 { s5 with heap := h6 } := I3.call' (ch := fp) J6.os J6.base J6.hok J6.bare fun b hb => ⟨(f3 b hb).1.2.2.2.1, (f3 b hb).1.2.1, (f3 b hb).1.2.2.2.2.1, (f3 b hb).1.2.2.2.2.2⟩
      have nC : H5 s3.heap.objs.size = none := by
        have z : H5 ce.locals = none := J6.free
        rw [cL] at z
        exact z
      obtain ⟨mm, hns, _⟩ := J6.loc
      have hns : h6.Ns ce.locals mm := hns
      rw [cL] at hns
      rw [ei, List.take_length, hlen, List.take_length] at d5
      exact hRR D s3.heap.objs.size _ mm H5 J7 (q D H5 k5 hDn d5) hns (I3.fpOk (Nat.le_refl _) nC)
  exact codeAny_compStart_list loop (wpAny_pyIter_zip (up4 _ _ hz) loop)
/-- y = [x for x, y in zip(a, b) if y] on one line -/
theorem ps_pick {X : Cx} {p : Addr × Obj} {w g y : Str} {i iw ig kk : Nat} {scope : Scope} {e1 e2 : Expr} {ta : TA} {p1 p2 p3 p4 tp pz pc pos py spos : Pos} (hot : Hot1 X.A p) (hp : p ∈ X.pn) (hN : X.N.Nodup) (ok : BlkOk X.N X.env.scope scope [(w, iw), (g, ig)])
    (hw : X.N[iw]? = some w) (hg : X.N[ig]? = some g) (hwg : iw ≠ ig) (lw : (relS scope X.env.scope).names.lookup w = some .local) (lg : (relS scope X.env.scope).names.lookup g = some .local) (gz : Gl X "zip") (mz : X.mg "zip" = none)
    (ha : PA X [e1, e2] ta) (dw : (w == ("__debug__" : Str)) = false) (dw2 : (w == ("__classdict__" : Str)) = false) (dg : (g == ("__debug__" : Str)) = false) (dg2 : (g == ("__classdict__" : Str)) = false)
    (hs : starEach [e1, e2] X.env = (false, eval e1 X.env) :: starEach [e2] X.env) (hpl : (backTo pc (starEach [e2] X.env)).any (·.1) = false) (hy : X.N[i]? = some y) (hyl : X.env.scope.names.lookup y = some .local)
    (hsw : swapsWith (.ListComp (.Name w p1) [⟨.Tuple [.Name w p2, .Name g p3] kk tp, .Call (.Name "zip" pz) [e1, e2] [] pc, [.Name g p4], 0⟩] scope pos) (some (.Name y py)) spos.line X.env = pure true) :
    PS X (.Assign [.Name y py] (.ListComp (.Name w p1) [⟨.Tuple [.Name w p2, .Name g p3] kk tp, .Call (.Name "zip" pz) [e1, e2] [] pc, [.Name g p4], 0⟩] scope pos) spos) (tAsg (tPick ta) (gName i)) := by
  refine ⟨fun pins s σ H D I h => ?_⟩
  rw [exec_Assign_Name_used _ _ _ _ hsw]
  refine wpAny_bind (wpAny_standAt (wpAny_bind (wpAny_bind (thn (pick_core (Q := fun x H1 => gName i x σ H1 D.nx) (use := some (assign (.Name y py) X.env)) (Qf := fun _ s' => SP X pins D .next s') hot hp hN ok hw hg hwg lw lg gz mz ha dw dw2 dg dg2 hs hpl I h fun L C s' m H' I' q hn f => ?_) fun _ s' hq => wpAny_pure (wpAny_pure hq)))))
  obtain ⟨f0, f1, f2, f3, f4, f5⟩ := f
  refine wpAny_assign_Name (store_ok2 (v := V.ref L) I' hN hy (.inl hyl) rfl (fun s2 I2 ⟨a, sb, za⟩ => ⟨m, hn.sameBut sb (za.elim (fun z => by rw [z]; exact f1) fun z => fun e => f4 y a z e.symm), fun h3 sb3 => ?_⟩) (.inr hyl))
  exact ⟨_, H', I2.turned (t' := s2.toks) (fun b o hb e => (sb3.2 b hb).trans e) f0 f1 f3 f4 f5, q⟩
end Hz

set_option Elab.async false
set_option linter.all false
set_option maxRecDepth 100000
set_option maxHeartbeats 2000000
/-! D24: a def called from an except suite, its promise told of the exception that is handled. -/
namespace Hz
open PySem PySem.Spec PyProof.Rows L2 HotX L2H Dl
/-- a promise about the exception p that is handled -/
abbrev SpH := Addr × Obj → Sp
def FnHp (M : Mach) (k : Nat) (f : Addr) (fd : FuncData) (ps : List Str) (sp : SpH) : Prop :=
  ∀ (A : Around) (outer : List Env) (s : Shared) (H : Hp) (args : Args) (us : List Value) (vs : List V) (Q : VK) (E : XK) (p : Addr × Obj), RoomH k A → Hot1 A p → PinOk outer H s p → Env0 M.P M.w M.K M.mg M.base A outer s H → vs.length = ps.length → BindsTo s fd args (ps.zip us) → Vals vs us → sp p vs H Q E →
    codeAny (model M.P M.w) A (.call (.ref f) args) (CR (L2N.CX M.P M.w) outer M.P M.w H s Q E) s
theorem fnHp {M : Mach} {x qual : Str} {st : Stmt} {f : Addr} {fd : FuncData} {N ps : List Str} {k : Nat} {sp : SpH} (F : Fun M.K x qual st f fd) (S : FnScope N ps (defScope st))
    (body : ∀ (X : Cx) (p : Addr × Obj) (vs : List V) (H : Hp) (Q : VK) (E : XK), machOf X = M → X.N = N → X.env.scope = defScope st → X.pn = [p] → Hot1 X.A p → RoomH k X.A → sp p vs H Q E →
      ∃ t, PSs X (defBody st) t ∧ t { nx := fun _ H' => Q .non H', rt := Q } (L2.start N vs) H) : FnHp M (k + 1) f fd ps sp := by
  obtain ⟨oc, od, kV, doc, pm, an, cdv, ct, osl, rfl, lk, hcd⟩ := F.ex
  intro A outer s H args us vs Q E p hr hot pin e0 hl hb r hsp
  have KX : M.K.In s.heap := e0.mod.kin.keeps fun b o e => (e0.bs b o e).1
  have lim : s.heap.NoLimit := e0.mod.nolimit.keeps fun b o e => (e0.bs b o e).1
  refine codeAny_call_function hr.depth (KX _ _ lk) rfl S.co S.gen rfl (PySem.W.codeRec_of KX hcd) (hb _ _ _ _ (wpAny_newFunctionEnv_cells S.kind (fun ⟨n, v⟩ hy => ?_) fun env he s1 x => ?_))
  · exact (S.par n (List.of_mem_zip hy).1).elim .inl fun q => .inr ⟨q, PySem.W.cellsFrom_some _ _ _ (.inl q)⟩
  subst he
  refine ⟨lim.keeps x.toInCall.keep, codeAny_func ?_⟩
  have I := inv_startH (CX := L2N.CX M.P M.w) (E := E) S pin e0 hl r x
  obtain ⟨t, ht, hq⟩ := body (cxH (L2N.CX M.P M.w) M.P M.w M.K M.mg M.base N qual (defScope st) f cdv A outer s H E p) p vs H Q E rfl rfl rfl rfl hot (hr.deeper _) hsp
  refine wpAny_mono (ht.run [] s1 (L2.start N vs) H _ I hq) (fun fl s' hs => ?_) fun e s' hs => hs
  cases fl with
  | ret u => obtain ⟨v, σ', H', J, rv, q⟩ := hs; exact ⟨v, H', J.os, J.bare, J.base, J.hok, rv, q⟩
  | next => obtain ⟨σ', H', J, q⟩ := hs; exact ⟨.non, H', J.os, J.bare, J.base, J.hok, rfl, q⟩
  | brk => exact hs.elim fun _ h => h.elim fun _ h => h.2.elim
  | cont => exact hs.elim fun _ h => h.elim fun _ h => h.2.elim
/-- f(e, ..) in an except suite, nothing raised -/
def tCallH (sp : SpH) (p : Addr × Obj) (t : TA) : TE := fun σ H Q => t σ H fun vs H1 => sp p vs H1 Q fun _ _ _ => False
theorem pe_callHp {X : Cx} {k : Nat} {f : Addr} {fd : FuncData} {ps : List Str} {sp : SpH} {x : Str} {p : Addr × Obj} {q pos : Pos} {e : Expr} {es : List Expr} {t : TA} (F : FnHp (machOf X) k f fd ps sp) (hr : RoomH k X.A) (hot : Hot1 X.A p) (hp : p ∈ X.pn) (len : ∀ vs H Q E, sp p vs H Q E → vs.length = ps.length)
    (hg : Gl X x) (hm : X.mg x = some (.ref f)) (hk : PySem.W.keepIn X.K (.ref f) = true) (hb : Binds X.K fd ps []) (ha : PA X (e :: es) t) (hdb : (x == ("__debug__" : Str)) = false)
    (he : starEach (e :: es) X.env = (false, eval e X.env) :: starEach es X.env) (hpl : (backTo pos (starEach es X.env)).any (·.1) = false) : PE X (.Call (.Name x q) (e :: es) [] pos) (tCallH sp p t) := by
  refine ⟨fun pins s σ H Q I h => wpAny_Call_Name_kw (ld_glob I hg hm ?_ hdb)⟩
  refine PySem.W.callWith_K (h₀ := X.base) I.ok.mod.kin hk (thn (ha.run pos pins s σ H _ I h) fun us s1 ⟨vs, H1, I1, r, z⟩ => ⟨I1.kIn, ?_⟩) he hpl
  have hl := len _ _ _ _ z
  have b := hb s1 us I1.kIn (by rw [List.append_nil, ← r.length]; exact hl)
  rw [List.append_nil] at b
  have P1 := I1.pin p (List.mem_append_left _ hp)
  refine wpAny_call (codeAny_mono (F X.A X.stack s1 H1 ⟨us, []⟩ us vs Q _ p hr hot ⟨P1.1, P1.2.1, fun hm => (List.mem_cons.mp (I1.stkSub p.1 hm)).elim P1.2.2.1 P1.2.2.2.1, P1.2.2.2.2⟩ I1.env0 hl b r z) fun r s' hq => ?_)
  cases r with
  | error e => exact hq.elim fun _ ⟨_, _, _, _, _, _, _, _, _, _, _, z⟩ => z.elim
  | ok fl => cases fl with
    | ret u => exact I1.after hq
    | next => exact hq.elim
    | brk => exact hq.elim
    | cont => exact hq.elim
/-- isinstance(e, c), e the exception that is handled, of the class D, with no attributes of its own -/
def rIsP (K : PySem.W.Frag) (D a : Addr) : List V → Hp → VK → Prop := fun xs H Q => ∃ (c : V) (cv : Value) (b : Bool), xs = [.ref a, c] ∧ (∀ u, RelV c u → u = cv) ∧ PySem.W.kitOne K (.ref D) cv = some b ∧ Q (.bl b) H
theorem call_isP {X : Cx} {D : Addr} {p : Addr × Obj} (hp : p ∈ X.pn) (C : ExcC X.K D) (hc : p.2.cls = .ref D) (hd : p.2.dict = none) (hf : ∃ vs, p.2.data = .fields vs) : CallR X (.builtin "isinstance") (rIsP X.K D p.1) := by
  rintro pins s σ H xs us Q I r ⟨c, cv, b, rfl, hcv, e, q⟩
  obtain ⟨u, rfl, rt⟩ : ∃ u, us = [.ref p.1, u] ∧ RelV c u := by
    cases r with
    | cons rx rr => cases rr with
      | cons rt rr => cases rr; cases rx; exact ⟨_, rfl, rt⟩
  obtain rfl := hcv _ rt
  have J : PySem.W.InstAt s.heap p.1 p.2 D none := by
    have hg := (I.pin p (List.mem_append_left _ hp)).1
    obtain ⟨a, ⟨oc, od, oda, osl⟩⟩ := p
    obtain ⟨vs, hv⟩ := hf
    dsimp only at hc hd hv hg
    subst hc hd hv
    exact ⟨hg, rfl, rfl, trivial⟩
  exact PySem.W.kia_one (PySem.W.handS_kitx_exc C.hg C.hk C.hs C.hd C.ha C.hn C.ht C.hm) I.kIn J e (fun z => nomatch z) fun tk => ⟨.bl b, H, I.kept (t' := tk) fun _ _ z => z, rfl, q⟩
end Hz

set_option Elab.async false
set_option linter.all false
set_option maxRecDepth 100000
set_option maxHeartbeats 2000000
/-! D25: steps in an except suite and in what it calls. -/
namespace Hz
open PySem PySem.Spec PyProof.Rows L2 HotX L2H Dl
abbrev Ext (H H' : Hp) : Prop := ∀ b o, H b = some o → H' b = some o
theorem ext_upd {H : Hp} {a : Addr} {o : HO} (h : H a = none) : Ext H (upd H a o) := fun b u e => by rw [upd_ne (ne_of_none e h)]; exact e
section
variable {X : Cx} {σ : L2.St} {H : Hp} {Q : VK} {D : Ends} {x : Str} {i : Nat} {e : Expr} {es : List Expr} {rest : List Stmt} {pos pos' : Pos}
theorem h_set (hN : X.N.Nodup) (hi : X.N[i]? = some x) (hx : X.env.scope.names.lookup x = some .local) (q : tSem X e σ H fun v H1 => tSemSs X rest D (σ.set i (some v)) H1) (hs : swapsWith e (some (.Name x pos')) pos.line X.env = pure false := by rfl) :
    tSemSs X (.Assign [.Name x pos'] e pos :: rest) D σ H := semSs (pss_cons (ps_set hN hi (.inl hx) pe_sem hs (.inr hx)) pss_sem) q
theorem h_ret (q : tSem X e σ H D.rt) : tSemSs X [.Return (some e) pos] D σ H := semSs (pss_one (ps_ret pe_sem)) q
theorem h_nil (q : D.nx σ H) : tSemSs X [] D σ H := semSs pss_nil q
theorem h_var {v : V} (hi : X.N[i]? = some x) (hx : X.env.scope.names.lookup x = some .local) (hd : (x == ("__debug__" : Str)) = false) (hcd : (x == ("__classdict__" : Str)) = false) (e : σ[i]? = some (some v)) (q : Q v H) : tSem X (.Name x pos) σ H Q := sem (pe_var hi (.inl hx) hd hcd) ⟨v, e, q⟩
theorem h_str {s : Str} {j : Nat} (q : Q (.str s) H) : tSem X (.Constant (.str s) j pos) σ H Q := sem pe_str q
/-- arguments that leave the heap alone -/
abbrev ArgsAre (X : Cx) (σ : L2.St) (H : Hp) (es : List Expr) (vs : List V) : Prop := ∀ Q : List V → Hp → Prop, Q vs H → tSemA X es σ H Q
abbrev ExpIs (X : Cx) (σ : L2.St) (H : Hp) (e : Expr) (v : V) : Prop := ∀ Q : VK, Q v H → tSem X e σ H Q
theorem args_nil : ArgsAre X σ H [] [] := fun Q q => semA pa_nil q
theorem args_cons {v : V} {vs : List V} (h : ExpIs X σ H e v) (hs : ArgsAre X σ H es vs) (pl : Plain1 e := by exact star_cons rfl) : ArgsAre X σ H (e :: es) (v :: vs) := fun Q q => semA (pa_cons pe_sem pa_sem (pl es X.env)) (h _ (hs _ q))
theorem args_consP {v : V} {vs : List V} (h : ExpIs X σ H e v) (hs : ArgsAre X σ H es vs) (pl : plainB e = true) : ArgsAre X σ H (e :: es) (v :: vs) := args_cons h hs fun _ _ => star_cons pl
theorem args_str {s : Str} {j : Nat} {vs : List V} (hs : ArgsAre X σ H es vs) : ArgsAre X σ H (.Constant (.str s) j pos :: es) (.str s :: vs) := args_consP (fun Q q => h_str q) hs rfl
theorem h_list {vs : List V} (h : ArgsAre X σ H es vs) (hl : vs.length ≤ 1000) (q : ∀ a H', Ext H H' → H' a = some (.lst vs) → Q (.ref a) H') : tSem X (.List es pos) σ H Q :=
  sem (pe_lst pa_sem) (h _ ⟨Nat.le_trans hl (by decide), fun a ha => q a _ (ext_upd ha) upd_same⟩)
theorem h_more {xs vs : List V} {l : Addr} (hx : ExpIs X σ H e (.ref l)) (hl : H l = some (.lst xs)) (h : ArgsAre X σ H es vs) (hz : xs.length + vs.length ≤ 1000) (q : ∀ a H', Ext H H' → H' a = some (.lst (xs ++ vs)) → Q (.ref a) H') : tSem X (.BinOp e .Add (.List es pos) pos') σ H Q :=
  sem (pe_op op_cat pe_sem (pe_lst pa_sem)) (hx _ (h _ ⟨Nat.le_trans (by omega) (show 1000 ≤ sizeLine by decide), fun a ha => ⟨l, a, xs, vs, rfl, rfl, by rw [upd_ne (ne_of_none hl ha)]; exact hl, upd_same, Nat.le_trans hz (by decide), fun p hp => q p _ (fun b o e => ext_upd hp _ _ (ext_upd ha _ _ e)) upd_same⟩⟩))
theorem h_add {a b : Str} {e2 : Expr} (h1 : ExpIs X σ H e (.str a)) (h2 : ExpIs X σ H e2 (.str b)) (hl : a.length + b.length ≤ 1000) : ExpIs X σ H (.BinOp e .Add e2 pos) (.str (a ++ b)) := fun Q q =>
  sem (pe_op op_add_str pe_sem pe_sem) (h1 _ (h2 _ ⟨a, b, rfl, rfl, Nat.le_trans hl (by decide), q⟩))
theorem h_if {c e2 : Expr} {v : V} (hc : ExpIs X σ H c (.bl true)) (ha : ExpIs X σ H e v) (ht : ∀ whole, PySem.isTrue c X.env whole = (do let v ← whole; standAt c.pos; holding [v] (truthy v))) : ExpIs X σ H (.IfExp c e e2 pos) v := fun Q q =>
  sem (pe_ifExp (pt_val pe_sem ht) pe_sem pe_sem) (hc _ ⟨true, rfl, ha _ q⟩)
theorem h_join {o : Expr} {a : Str} {l : Addr} {ys : List Str} {apos : Pos} (ho : ExpIs X σ H o (.str a)) (he : ExpIs X σ H e (.ref l)) (hl : H l = some (.lst (ys.map V.str))) (hz : (ys.map (·.length)).sum + ys.length * a.length ≤ 1000)
    (hs : starEach [e] X.env = [(false, eval e X.env)]) (hbase : attributeBase o "join" X.env (eval o X.env) = eval o X.env) (hline : (apos.endLine == pos.line) = true) : ExpIs X σ H (.Call (.Attribute o "join" apos) [e] [] pos) (.str (Txt.join a ys)) := fun Q q =>
  sem (pe_join pe_sem pe_sem hs hbase hline) (ho _ ⟨⟨a, rfl⟩, he _ ⟨a, l, ys, rfl, rfl, .inl (.inl (.inl hl)), Nat.le_trans hz (by decide), q⟩⟩)
/-- isinstance(e, C), C an own class -/
theorem h_isP {Dc c : Addr} {b : Bool} {p : Addr × Obj} {xe xc : Str} {p1 p2 p3 : Pos} (hp : p ∈ X.pn) (C : ExcC X.K Dc) (hc : p.2.cls = .ref Dc) (hd : p.2.dict = none) (hf : ∃ vs, p.2.data = .fields vs) (gi : Gl X "isinstance") (mi : X.mg "isinstance" = none)
    (he : ExpIs X σ H (.Name xe p2) (.ref p.1)) (gc : Gl X xc) (mc : X.mg xc = some (.ref c)) (dc : (xc == ("__debug__" : Str)) = false) (k : PySem.W.kitOne X.K (.ref Dc) (.ref c) = some b)
    (hst : starEach [.Name xe p2, .Name xc p3] X.env = (false, eval (.Name xe p2) X.env) :: starEach [.Name xc p3] X.env) (hpl : (backTo pos (starEach [.Name xc p3] X.env)).any (·.1) = false) : ExpIs X σ H (.Call (.Name "isinstance" p1) [.Name xe p2, .Name xc p3] [] pos) (.bl b) := fun Q q =>
  sem (pe_callB (call_isP hp C hc hd hf) gi mi (by rfl) (pa_cons pe_sem (pa_cons (pe_glob gc mc (v := .ref c) rfl dc) pa_nil)) (by decide) (by decide) hst hpl) (he _ ⟨.ref c, .ref c, b, rfl, fun _ r => r, k, q⟩)
/-- isinstance(e, T), T a built-in class -/
theorem h_isB {Dc : Addr} {b : Bool} {p : Addr × Obj} {xe xc : Str} {T : String} {p1 p2 p3 : Pos} (hp : p ∈ X.pn) (C : ExcC X.K Dc) (hc : p.2.cls = .ref Dc) (hd : p.2.dict = none) (hf : ∃ vs, p.2.data = .fields vs) (gi : Gl X "isinstance") (mi : X.mg "isinstance" = none)
    (he : ExpIs X σ H (.Name xe p2) (.ref p.1)) (gc : Gl X xc) (mc : X.mg xc = none) (bc : bootBuiltins xc = some (.type T)) (nc : xc ≠ "__name__") (dc : (xc == ("__debug__" : Str)) = false) (k : PySem.W.kitOne X.K (.ref Dc) (.type T) = some b)
    (hst : starEach [.Name xe p2, .Name xc p3] X.env = (false, eval (.Name xe p2) X.env) :: starEach [.Name xc p3] X.env) (hpl : (backTo pos (starEach [.Name xc p3] X.env)).any (·.1) = false) : ExpIs X σ H (.Call (.Name "isinstance" p1) [.Name xe p2, .Name xc p3] [] pos) (.bl b) := fun Q q =>
  sem (pe_callB (call_isP hp C hc hd hf) gi mi (by rfl) (pa_cons pe_sem (pa_cons (pe_bltn gc mc bc (v := .ty T) rfl nc dc) pa_nil)) (by decide) (by decide) hst hpl) (he _ ⟨.ty T, .type T, b, rfl, fun _ r => r, k, q⟩)
end
end Hz

set_option Elab.async false
set_option linter.all false
set_option maxRecDepth 100000
set_option maxHeartbeats 2000000
/-! D26: try with several «except C as n» clauses, one name n. -/
namespace Hz
open PySem PySem.Spec PyProof.Rows L2 HotX L2H Dl
abbrev Clause := Value × (Addr → Value → Option Addr → TS)
def wClauses (K : PySem.W.Frag) (i : Nat) (Wout : WX) (D : Ends) : List Clause → WX
  | [] => Wout
  | (c, ts) :: r => wAs K c i ts (wClauses K i Wout D r) D
inductive ClOk (X : Cx) (n : Str) : List ExceptHandler → List Clause → Prop
  | nil : ClOk X n [] []
  | cons {x : Str} {c : Value} {ts : Addr → Value → Option Addr → TS} {b₀ : Stmt} {suite : List Stmt} {np pos' : Pos} {hds : List ExceptHandler} {l : List Clause} (hc : Names X x c)
      (hsu : ∀ (a : Addr) (oe : Obj) (cls : Value) (d : Option Addr) (pn : List (Addr × Obj)), L2N.Zn cls d oe → (∃ vs, oe.data = .fields vs) → PSs (X.suite a ((a, oe) :: pn)) (b₀ :: suite) (ts a cls d)) (r : ClOk X n hds l) :
      ClOk X n (.ExceptHandler (some (.Name x np)) (some n) (b₀ :: suite) pos' :: hds) ((c, ts) :: l)
section
variable {X : Cx} {n : Str} {i : Nat} {body : List Stmt} {h₀ : ExceptHandler} {hds : List ExceptHandler} {l : List Clause} {pos : Pos} {tb : WX → TS} {Wout : WX}
theorem ps_clauses (hs : X.stack = X.env :: X.outer) (hf : X.env.frame = some X.env.locals) (hN : X.N.Nodup) (hi : X.N[i]? = some n) (hln : X.env.kindOf n = some .local) (tk : L2N.Takes X Wout)
    (hb : ∀ (W : WX) (pn : List (Addr × Obj)) (xe : Value → Shared → Prop), L2N.Takes (X.tr pn xe) W → PassesOwn (model X.prog X.w) X.A X.env xe → PSs (X.tr pn xe) body (tb W)) (hh : ClOk X n (h₀ :: hds) l) :
    PS X (.Try body (h₀ :: hds) [] [] pos) (fun D σ H => tb (wClauses X.K i Wout D l) D σ H) := by
  refine ⟨fun pins s σ H D I h => wpAny_Try_except ?_⟩
  have ok := I.ok
  have hfr : X.A.frames = some (X.env :: X.outer) := by rw [ok.frames, hs]
  refine wpAny_mono ((hb (wClauses X.K i Wout D l) (X.pn ++ pins) (fun e s₁ => wpAny (model X.prog X.w) X.A (noteFrame e X.env) (fun _ s₂ => wpAny (model X.prog X.w) X.A (setFlight e none) (fun _ s₃ => wpAny (model X.prog X.w) X.A (handleBy e X.env (h₀ :: hds)) (SP X pins D) X.xe s₃) X.xe s₂) X.xe s₁)
    (fun u s' xx => ?_) PassesOwn.looking).run [] s σ H D (I.toTry _) h) (fun f s1 hsp => ?_) (fun e s1 he => he)
  · obtain ⟨a, B, sI, pins', σ', H', cls, d, rfl, J', nb, up, sky, na, os, ag, w⟩ := xx
    have J : Inv X pins σ' H' sI := J'.ofTry ok
    rw [show (X.tr (X.pn ++ pins) _).stack = X.env :: X.outer from hs] at sky
    show wpAny (model X.prog X.w) X.A (noteFrame (.ref a) X.env) _ _ _
    refine L2N.Sky.land L2N.Zn.steady hfr hf sky fun h3 fl3 up3 => ?_
    have J3 : Inv X pins σ' H' { s' with heap := h3 } := J.landed nb fl3.1 (up.trans up3) os ag
    obtain ⟨oe3, vs3, he3, hz3, hd3⟩ := fl3.there
    have nfr : a ∉ frs (X.env :: X.outer) := fun hm => by
      obtain ⟨_, o', e', hnf⟩ := fl3.2.2.1.mem hm
      rw [he3] at e'; cases e'
      exact hnf _ hd3
    have nL : a ≠ X.env.locals := fun z => nfr (List.mem_filterMap.mpr ⟨X.env, List.mem_cons_self, by rw [hf, z]⟩)
    have nF : a ∉ X.fs := fun hm => let ⟨e, he, q⟩ := List.mem_filterMap.mp hm; nfr (List.mem_filterMap.mpr ⟨e, List.mem_cons_of_mem _ he, q⟩)
    have LT : PySem.W.Looks (model X.prog X.w) h3 (typeOf (.ref a)) cls := fun A Q E s k q => wpAny_typeOf_ref (k _ _ he3) (by rw [hz3.1]; exact q)
    have go : ∀ {hds' : List ExceptHandler} {l' : List Clause}, ClOk X n hds' l' → wClauses X.K i Wout D l' cls d σ' H' → wpAny (model X.prog X.w) X.A (handleBy (.ref a) X.env hds') (SP X pins D) X.xe { s' with heap := h3 } := by
      intro hds' l' hk
      induction hk with
      | nil =>
        intro w
        obtain ⟨k1, k2, k3, oe, vs, T, oT, ts', he, hz, hd, h1, hr⟩ := id fl3
        refine wpAny_handleBy_nil ?_
        unfold PySem.passOn
        refine wpAny_bind (wpAny_field he hd h1 ?_)
        rw [if_neg (show ¬ ((Value.ref T == Value.none) = true) by simp)]
        have fin : wpAny (model X.prog X.w) X.A (setFlight (.ref a) X.env.frame) (fun _ s4 => wpAny (model X.prog X.w) X.A (throw (.ref a) : Sem Flow) (SP X pins D) X.xe s4) X.xe { s' with heap := h3 } := by
          rw [hf]
          refine HandSPX.setFlight_upZ fl3 fun h4 hh4 up4 => wpAny_throw (tk _ _ ⟨a, B, sI, pins, σ', H', cls, d, rfl, J, nb, (up.trans up3).trans up4, .inr (.inr ?_), na, os, ag, w⟩)
          rw [hs]; exact hh4
        first | exact wpAny_bind (wpAny_pure (wpAny_bind fin)) | exact wpAny_bind fin
      | @cons x c ts b₀ suite np pos' hds2 l2 hc hsu r ih =>
        rintro ⟨b, hb1, hyes, hno⟩
        have S3 := J3.suite he3 hd3 na nL nF
        have LM := PySem.W.exm_one (M := model X.prog X.w) (J3.kIn) LT hb1
        refine wpAny_handleBy_cons (codeAny_handlers_test ?_) (by intro q; cases q)
        have test : ∀ {Q : Value → Shared → Prop} {E : Value → Shared → Prop}, Q c { s' with heap := h3 } → wpAny (model X.prog X.w) (X.A.mark (some (.ref a))) (eval (.Name x np) X.env) Q E { s' with heap := h3 } := fun {Q E} q => by
          obtain ⟨hg, hdbg, hm | ⟨hm, hv, hnn⟩⟩ := hc
          · exact ld_glob (X := X.suite a ((a, oe3) :: (X.pn ++ pins))) S3 hg hm q hdbg
          · exact ld_blt (X := X.suite a ((a, oe3) :: (X.pn ++ pins))) S3 hg hm hv q hnn hdbg
        refine test (LM.here ?_)
        cases b with
        | false => exact ih (hno rfl)
        | true =>
          refine codeAny_handlers_suite_as (HandSPX.lands_againZ fl3 fun h4 fl4 up4 => ?_)
          have J4 : Inv X pins σ' H' { s' with heap := h4 } := J.landed nb fl4.1 ((up.trans up3).trans up4) os ag
          obtain ⟨oe4, vs4, he4, hz4, hd4⟩ := fl4.there
          have S4 := J4.suite he4 hd4 na nL nF
          refine store_ok (X := X.suite a ((a, oe4) :: (X.pn ++ pins))) (v := .ref a) S4 hN hi (.inl hln) rfl (fun s5 S5 => ?_) (.inr hln)
          refine wpAny_mono ((hsu a oe4 cls d (X.pn ++ pins) hz4 ⟨_, hd4⟩).run [] s5 _ H' _ S5 (hyes rfl a na)) (fun f s6 hsp => ?_) (fun _ _ z => z.elim)
          have end_ : ∀ {σ6 : L2.St} {H6 : Hp} {Q : Shared → Prop}, Inv (X.suite a ((a, oe4) :: (X.pn ++ pins))) [] σ6 H6 s6 → (∀ s7, Inv X pins (σ6.set i none) H6 s7 → Q s7) →
              wpAny (model X.prog X.w) X.A (do bindName X.env n .none; unbindBehindTheSuite X.env n pos') (fun _ s7 => Q s7) X.xe s6 := fun {σ6 H6 Q} S6 hq => gone_ok (S6.unsuite ok) hN hi hln hq
          cases f with
          | ret u => obtain ⟨v6, σ6, H6, S6, r6, q6⟩ := hsp; exact end_ S6 fun s7 J7 => ⟨_, _, _, J7, r6, q6⟩
          | next => obtain ⟨σ6, H6, S6, q6⟩ := hsp; exact end_ S6 fun s7 J7 => ⟨_, _, J7, q6⟩
          | brk => obtain ⟨σ6, H6, S6, q6⟩ := hsp; exact end_ S6 fun s7 J7 => ⟨_, _, J7, q6⟩
          | cont => obtain ⟨σ6, H6, S6, q6⟩ := hsp; exact end_ S6 fun s7 J7 => ⟨_, _, J7, q6⟩
    exact go hh w
  · cases f with
    | next => obtain ⟨σ', H', J', q⟩ := hsp; exact wpAny_execs_nil ⟨σ', H', J'.ofTry ok, q⟩
    | brk => obtain ⟨σ', H', J', q⟩ := hsp; exact ⟨σ', H', J'.ofTry ok, q⟩
    | cont => obtain ⟨σ', H', J', q⟩ := hsp; exact ⟨σ', H', J'.ofTry ok, q⟩
    | ret u => obtain ⟨v, σ', H', J', r, q⟩ := hsp; exact ⟨v, σ', H', J'.ofTry ok, r, q⟩
end
end Hz

set_option Elab.async false
set_option linter.all false
set_option maxRecDepth 100000
set_option maxHeartbeats 2000000
/-! D27: a lambda without parameters handed to a def, its exceptions told with their context. -/
namespace Hz
open PySem PySem.Spec PyProof.Rows L2 HotX L2H Dl LamX
/-- the lambda's body, what leaves it told as L2N tells it -/
abbrev lamN (X : Cx) (A : Around) (outer : List Env) (s : Shared) (H : Hp) (E : XK) (scope : Scope) (f c' : Addr) : Cx :=
  (lamCx X A outer s H E scope f c').wish fun e s' => wpAny (model X.prog X.w) (A.deeper (lamEnv X scope s.heap.objs.size f c')) (leaving (lamEnv X scope s.heap.objs.size f c') e) (fun _ s'' => L2N.CX X.prog X.w outer H s E e s'') (fun e' s'' => L2N.CX X.prog X.w outer H s E e' s'') s'
theorem lamN_takes {X : Cx} {A : Around} {outer : List Env} {s : Shared} {H : Hp} {E : XK} {scope : Scope} {f c' : Addr} : L2N.Takes (lamN X A outer s H E scope f c') (fun cls d _ H => E cls d H) := L2N.takes_of rfl rfl rfl rfl
section
variable {X : Cx} {pins : List (Addr × Obj)} {σ : L2.St} {H : Hp} {s : Shared}
/-- x(), in the def that got the lambda -/
theorem pe_door {CXg : CXT} {Eg : XK} {Ng : List Str} {qg : Str} {sg : Scope} {g f c' : Addr} {cdg pm ctv : Value} {params : Arguments} {body : Expr} {scope : Scope} {k i : Nat} {a : Str} {pn : List (Addr × Obj)} {xe : Value → Shared → Prop} {W : WX} {E : XK} {tb : TE} {p1 p2 : Pos}
    (I : Inv X pins σ H s) (L : LamS X.env.scope scope) (hf : s.heap.get? f = some (PySem.W.kla_obj "<lambda>" (X.env.qual ++ "<lambda>") params body scope (cloFrom X.env.cells scope.names []) pm c' ctv)) (hfn : H f = none) (hfr : f ∉ frs X.stack)
    (hbind : bindArgs (PySem.W.kla_fn "<lambda>" (X.env.qual ++ "<lambda>") params body scope (cloFrom X.env.cells scope.names []) pm (.ref c') ctv) ⟨[], []⟩ = pure [])
    (tk : L2N.Takes ((cxOf CXg X.prog X.w X.K X.mg X.base Ng qg sg g cdg X.A X.stack s H Eg).tr pn xe) W) (hW : ∀ cls d σ' H', E cls d H' → W cls d σ' H') (hr : Room (k + 1) (X.A.deeper (envOfC qg sg s.heap.objs.size g cdg)))
    (hbody : ∀ (A : Around) (outer : List Env) (s : Shared) (H : Hp), Room k (A.deeper (lamEnv X scope s.heap.objs.size f c')) → PE (lamN X A outer s H E scope f c') body tb)
    (hN : Ng[i]? = some a) (hv : Vis sg a) (hd : (a == ("__debug__" : Str)) = false) (hcd : (a == ("__classdict__" : Str)) = false) :
    PE ((cxOf CXg X.prog X.w X.K X.mg X.base Ng qg sg g cdg X.A X.stack s H Eg).tr pn xe) (.Call (.Name a p1) [] [] p2) (fun σZ HZ Q => σZ[i]? = some (some (.ref f)) ∧ HZ c' = some (CodeO c' (X.env.qual ++ "<lambda>")) ∧ tb σ HZ Q) := by
  refine ⟨fun pinsZ sZ σZ HZ Q IZ ⟨hs, hc, ht⟩ => ?_⟩
  refine wpAny_Call_Name_kw (thn ((pe_var (pos := p1) (i := i) hN hv hd hcd).run pinsZ sZ σZ HZ (fun v H1 => v = .ref f ∧ H1 = HZ) IZ ⟨.ref f, hs, rfl, rfl⟩) fun u s1 ⟨v, H1, I1, r1, ev, eH⟩ => ?_)
  subst ev
  rw [eH] at I1
  obtain rfl : u = Value.ref f := r1
  have un : Un (frs X.stack) [] H HZ s.heap s1.heap := I1.base
  have of1 := un.keep f _ hf hfn hfr (fun z => nomatch (show f ∈ ([] : List Addr) from z))
  refine PySem.W.callWith_F0 ⟨_, _, _, _, of1⟩ ?_
  obtain ⟨⟨oc, vs, t, hoc, hdc, hvc⟩, _, _⟩ := I1.hok c' _ hc
  have rc : codeAny (model X.prog X.w) (X.A.deeper (envOfC qg sg s.heap.objs.size g cdg)) (.call (.ref f) ⟨[], []⟩) (CR (L2N.CX X.prog X.w) (envOfC qg sg s.heap.objs.size g cdg :: X.stack) X.prog X.w HZ s1 Q E) s1 := by
    refine PySem.W.kla_callFunE hr.depth of1 rfl L.co L.gen rfl ⟨c', oc, vs, t, rfl, hoc, hdc, hvc⟩ ?_
    rw [hbind]
    refine wpAny_pure (wpAny_newFunctionEnv (fun y hy => (L.own y hy).2) (fun y hy => absurd hy (by simp)) (fun h₁ hns hsb => ⟨I1.nolimit.fresh _ hsb, ?_⟩) L.kind)
    show codeAny _ _ (.expr body (lamEnv X scope s1.heap.objs.size f c')) _ _
    have kp : ∀ b o, s1.heap.get? b = some o → h₁.get? b = some o := fun b o e => hsb.extBut b o (Nat.ne_of_lt (Heap.lt_size e)) (Heap.get?_push_of_some _ e)
    have J : Inv (lamCx X (X.A.deeper (envOfC qg sg s.heap.objs.size g cdg)) (envOfC qg sg s.heap.objs.size g cdg :: X.stack) s1 HZ E scope f c') [] σ HZ { s1 with heap := h₁, toks := s1.toks + ([] : List (Str × Value)).length } := lam_start2 I L I1.env0 hr.hd un hns kp
    exact PySem.W.kla_codeExpr (wpAny_mono ((hbody _ _ s1 HZ (hr.deeper _)).run [] _ _ HZ Q (J.wish _) ht) (fun v s' ⟨w', H', J', rv, q⟩ => ⟨w', H', J'.os, J'.bare, J'.base, J'.hok, rv, q⟩) fun e s' hq => hq)
  refine wpAny_call (codeAny_mono rc fun r s' hq => ?_)
  · cases r with
    | error e => exact L2N.passes_call tk hW pinsZ σZ HZ s1 e s' I1 hq
    | ok fl => cases fl with
      | ret u => exact I1.after hq
      | next => exact hq.elim
      | brk => exact hq.elim
      | cont => exact hq.elim
end
end Hz

set_option Elab.async false
set_option linter.all false
set_option maxRecDepth 100000
set_option maxHeartbeats 2000000
/-! D28: the making of a lambda, what is frozen told apart from the table. -/
namespace Hz
open PySem PySem.Spec PyProof.Rows L2 HotX L2H Dl LamX
/-- behind the making: one code more may be frozen, the table may be longer -/
structure Made (F H F1 H1 : Hp) (P c' : Addr) (q : Str) : Prop where
  sF : Same F F1
  sH : Same F1 H1
  tab : TabF F1 H1 P q
  keep : ∀ b o, b ≠ P → H b = some o → H1 b = some o
  new : ∀ b, F b = none → F1 b ≠ none → H b = none
  code : F1 c' = some (CodeO c' q)
section
variable {X : Cx} {pins : List (Addr × Obj)} {σ : L2.St} {H F : Hp} {s : Shared}
theorem lam_makeF {c P : Addr} {params : Arguments} {body : Expr} {scope : Scope} {pos : Pos} {E : Value → Shared → Prop} {Q : Value → Shared → Prop} (I : Inv X pins σ H s) (TB : TabB X.base X.mg c P) (hcode : X.env.code = .ref c)
    (sFH : Same F H) (hFP : F P = none) (hT : TabF F H P (X.env.qual ++ "<lambda>")) (hdef : defaultsOf params X.env = ([], [])) (hfree : ∀ y ∈ scope.names, y.2 = .free → ∃ c, X.env.cells.lookup y.1 = some c)
    (h : ∀ (f c' : Addr) (pm ctv : Value) (F1 H1 : Hp) (s' : Shared), Inv X pins σ H1 s' → Made F H F1 H1 P c' (X.env.qual ++ "<lambda>") →
      s'.heap.get? f = some (PySem.W.kla_obj "<lambda>" (X.env.qual ++ "<lambda>") params body scope (cloFrom X.env.cells scope.names []) pm c' ctv) → H1 f = none → f ∉ frs X.stack → Q (.ref f) s') :
    wpAny (model X.prog X.w) X.A (eval (.Lambda params body scope pos) X.env) Q E s := by
  obtain ⟨ps, hP, ht, hcs⟩ := hT
  have bP : s.heap.BuiltinsAt X.mg P := TB.bm.keeps I.bk
  have gP : s.heap.get? P = some { cls := .none, data := .fields ps } := I.hok P _ hP
  have nofr : ∀ f, s.heap.objs.size ≤ f → f ∉ frs X.stack := fun f hf z => (List.mem_cons.mp (I.stkSub _ z)).elim (fun e => absurd (Nat.lt_of_lt_of_le I.lt (e ▸ hf)) (Nat.lt_irrefl _)) (I.nofs hf)
  refine PySem.W.kla_eval hdef ?_
  cases hc : codeAmong pos ps.toList with
  | some cv =>
    obtain ⟨c', e, hco⟩ := hcs pos cv hc
    subst e
    refine PySem.W.kla_makeFunctionHit (mg := X.mg) (c := c) (P := P) (ps := ps) (closure_ok hfree) I.ok.glob (I.mod.glob.keeps I.bk) hcode (TB.code.keeps I.bk) gP ht hc bP fun ctv h' tk hx hsz => ?_
    exact h h'.objs.size c' ((X.mg "__name__").getD .none) ctv F H _ (I.kept (t' := tk) fun b o e => Heap.get?_push_of_some _ (hx b o e)) ⟨Same.refl _, sFH, ⟨ps, hP, ht, hcs⟩, fun _ _ _ e => e, fun b e n => absurd e n, hco⟩ (Heap.get?_push_size _ rfl) (I.hok.fresh hsz) (nofr _ hsz)
  | none =>
    refine PySem.W.kla_makeFunction (mg := X.mg) (c := c) (P := P) (ps := ps) (closure_ok hfree) I.ok.glob (I.mod.glob.keeps I.bk) hcode (TB.code.keeps I.bk) gP ht hc TB.gP bP fun c' ctv h' tk hx hge hlt hrec htb => ?_
    obtain ⟨c2, oc, vs, t, e2, hoc, hd, hv⟩ := hrec
    cases e2
    have hsz : s.heap.objs.size ≤ h'.objs.size := Nat.le_trans hge (Nat.le_of_lt hlt)
    have nC : H c' = none := I.hok.fresh hge
    have nFC : F c' = none := sFH.free nC
    have nPc : P ≠ c' := ne_of_none hP nC
    have I1 := inv_table (t' := tk) (more := #[rawInt pos.line, rawInt pos.col, .ref c']) (h' := h'.push (PySem.W.kla_obj "<lambda>" (X.env.qual ++ "<lambda>") params body scope (cloFrom X.env.cells scope.names []) ((X.mg "__name__").getD .none) c' ctv)) I hP
      (fun b o hb e => Heap.get?_push_of_some _ (hx b o hb e)) (Heap.get?_push_of_some _ htb) hge ⟨oc, vs, t, Heap.get?_push_of_some _ hoc, hd, hv⟩
    have eL : (ps ++ #[rawInt pos.line, rawInt pos.col, .ref c']).toList = ps.toList ++ [rawInt pos.line, rawInt pos.col, .ref c'] := by simp
    refine h h'.objs.size c' ((X.mg "__name__").getD .none) ctv (upd F c' (CodeO c' (X.env.qual ++ "<lambda>"))) _ _ I1 ⟨same_upd nFC, fun b o e => ?_, ⟨_, by rw [upd_ne nPc, upd_same], by rw [eL]; exact PySem.TriplesOk_snoc _ _ _ _ ht, fun p' cv hcv => ?_⟩, fun b o n e => ?_, fun b e n => ?_, upd_same⟩ (Heap.get?_push_size _ rfl) ?_ (nofr _ hsz)
    · by_cases hb : b = c'
      · rw [hb, upd_same] at e
        rw [hb, upd_same]; exact e
      · rw [upd_ne hb] at e
        rw [upd_ne hb, upd_ne (fun z => by rw [z, hFP] at e; cases e)]
        exact sFH b o e
    · rw [eL] at hcv
      rcases among_app _ ht hcv with z | z
      · obtain ⟨c0, e1, e2⟩ := hcs p' cv z
        exact ⟨c0, e1, same_upd nFC _ _ e2⟩
      · exact ⟨c', z, upd_same⟩
    · rw [upd_ne (ne_of_none e nC), upd_ne n]
      exact e
    · by_cases hb : b = c'
      · rw [hb]; exact nC
      · rw [upd_ne hb] at n
        exact absurd e n
    · rw [upd_ne (Nat.ne_of_gt hlt), upd_ne (Nat.ne_of_gt (Nat.lt_of_lt_of_le (Heap.lt_size gP) hsz))]
      exact I.hok.fresh hsz
end
end Hz

set_option Elab.async false
set_option linter.all false
set_option maxRecDepth 100000
set_option maxHeartbeats 2000000
/-! D29: x(lambda: e), x a def that calls what it got and lets nothing out. -/
namespace Hz
open PySem PySem.Spec PyProof.Rows L2 HotX L2H Dl LamX
/-- the context of the def that got the lambda -/
abbrev gotCx (X : Cx) (Ng : List Str) (x : Str) (sg : Scope) (g : Addr) (cdg : Value) (s : Shared) (H : Hp) : Cx := cxOf C8.CX0 X.prog X.w X.K X.mg X.base Ng x sg g cdg X.A X.stack s H C8.E0
/-- TT: what the def makes of the lambda's reading -/
def GivesN (X : Cx) (k : Nat) (Ng : List Str) (x : Str) (sg : Scope) (g : Addr) (cdg : Value) (bg : List Stmt) (a : Str) (q : Str) (TT : (XK → Hp → VK → Prop) → Hp → VK → Prop) : Prop :=
  ∀ (f c' : Addr) (s : Shared) (H : Hp) (Q : VK) (tl : XK → Hp → VK → Prop), Room k (gotCx X Ng x sg g cdg s H).A →
    (∀ (W : WX) (pn : List (Addr × Obj)) (xe : Value → Shared → Prop) (E : XK) (p1 p2 : Pos), L2N.Takes ((gotCx X Ng x sg g cdg s H).tr pn xe) W → (∀ cls d σ' H', E cls d H' → W cls d σ' H') →
      PE ((gotCx X Ng x sg g cdg s H).tr pn xe) (.Call (.Name a p1) [] [] p2) (fun σZ HZ Q => σZ[0]? = some (some (.ref f)) ∧ HZ c' = some (CodeO c' q) ∧ tl E HZ Q)) →
    H c' = some (CodeO c' q) → TT tl H Q → ∃ t, PSs (gotCx X Ng x sg g cdg s H).nox bg t ∧ t { nx := fun _ H' => Q .non H', rt := Q } (L2.start Ng [.ref f]) H
def tLamF (P : Addr) (q : Str) (TT : (XK → Hp → VK → Prop) → Hp → VK → Prop) (t : XK → TE) : TE := fun σ H Q => ∃ F, Same F H ∧ F P = none ∧ TabF F H P q ∧ ∀ F1 H1 c', Made F H F1 H1 P c' q → TT (fun E H' Q' => t E σ H' Q') H1 Q
section
variable {X : Cx}
theorem pe_trylam {TT : (XK → Hp → VK → Prop) → Hp → VK → Prop} {x a : Str} {g c P : Addr} {k : Nat} {pg : Arguments} {bg : List Stmt} {sg : Scope} {dV kV doc pm cdv ct oc : Value} {an od : Option Addr} {osl : Array (Option Value)} {Ng : List Str}
    {params : Arguments} {body : Expr} {scope : Scope} {t : XK → TE} {p lpos pos : Pos} (hg : Gl X x) (hm : X.mg x = some (.ref g)) (hk : PySem.W.keepIn X.K (.ref g) = true)
    (lk : X.K.lookup g = some ⟨oc, od, .func (PySem.W.fnOf x x pg bg sg dV kV doc pm an cdv ct), osl⟩) (hcg : PySem.W.codeIn X.K cdv x = true) (hb : L2.Binds X.K (PySem.W.fnOf x x pg bg sg dV kV doc pm an cdv ct) [a] []) (Sg : FnScope Ng [a] sg) (hNg : Ng[0]? = some a) (hva : Vis sg a)
    (hG : GivesN X (k + 1) Ng x sg g cdv bg a (X.env.qual ++ "<lambda>") TT) (TB : TabB X.base X.mg c P) (hcode : X.env.code = .ref c) (hr : Room (k + 2) X.A) (L : LamS X.env.scope scope) (hdef : defaultsOf params X.env = ([], []))
    (hbind : ∀ (q : Str) (cl : List (Str × Addr)) (pm cv ctv : Value), bindArgs (PySem.W.kla_fn "<lambda>" q params body scope cl pm cv ctv) ⟨[], []⟩ = pure [])
    (hbody : ∀ (A : Around) (outer : List Env) (s : Shared) (H : Hp) (E : XK) (f c' : Addr), Room k (A.deeper (lamEnv X scope s.heap.objs.size f c')) → PE (lamN X A outer s H E scope f c') body (t E))
    (hdb : (x == ("__debug__" : Str)) = false) (hd : (a == ("__debug__" : Str)) = false) (hcd : (a == ("__classdict__" : Str)) = false) :
    PE X (.Call (.Name x p) [.Lambda params body scope lpos] [] pos) (tLamF P (X.env.qual ++ "<lambda>") TT t) := by
  refine ⟨fun pins s σ H Q I ⟨F, sFH, hFP, hT, h⟩ => wpAny_Call_Name_kw (ld_glob I hg hm ?_ hdb)⟩
  refine PySem.W.callWith_K (h₀ := X.base) I.ok.mod.kin hk ?_ (by rfl) (by rfl)
  show wpAny _ _ (spliced ((false, eval (.Lambda params body scope lpos) X.env) :: backTo pos (starEach [] X.env))) _ _ s
  refine Calls.spliced_cons (lam_makeF I TB hcode sFH hFP hT hdef (L.has I.ok) fun f c' pm' ctv F1 H1 s' I1 md hf hfn hfr => Calls.spliced_nil ⟨I1.kIn, ?_⟩)
  have hco := md.sH _ _ md.code
  have rc : codeAny (model X.prog X.w) X.A (.call (.ref g) ⟨[.ref f], []⟩) (CR C8.CX0 X.stack X.prog X.w H1 s' Q C8.E0) s' := by
    refine run_ofS (N := Ng) (ps := [a]) (us := [.ref f]) (vs := [.ref f]) lk hcg Sg hr I1.env0 (hb s' [.ref f] I1.kIn rfl) (.cons rfl .nil) rfl fun hr' => ?_
    obtain ⟨t', ht', hq'⟩ := hG f c' s' H1 Q (fun E H' Q' => t E σ H' Q') hr' (fun W pn xe E p1 p2 tk hW => pe_door (i := 0) I1 L hf hfn hfr (hbind _ _ _ _ _) tk hW hr' (fun A outer s H hr2 => hbody A outer s H E f c' hr2) hNg hva hd hcd) hco (h F1 H1 c' md)
    exact ⟨t', ht'.nox, hq'⟩
  refine wpAny_call (codeAny_mono rc fun r s2 hq => ?_)
  cases r with
  | error e => exact (show False from hq).elim
  | ok fl => cases fl with
    | ret u => exact I1.after hq
    | next => exact hq.elim
    | brk => exact hq.elim
    | cont => exact hq.elim
end
end Hz

set_option Elab.async false
set_option linter.all false
set_option maxRecDepth 100000
set_option maxHeartbeats 2000000
/-! D30: x(lambda: e) over data. -/
namespace Dl
open PySem PySem.Spec PyProof.Rows L2 LamX
section
variable {K : PySem.W.Frag} {B : Bs} {G : Sl} {O O' : Own} {F H : Hp} {σ : L2.St}
theorem nodup_ov : ∀ {O : Own} {P : Addr} {a b : OV}, (keys O).Nodup → (P, a) ∈ O → (P, b) ∈ O → a = b
  | [], _, _, _, _, h, _ => (List.not_mem_nil h).elim
  | x :: r, P, a, b, nd, h1, h2 => by
    obtain ⟨n1, n2⟩ := List.nodup_cons.mp (show (x.1 :: keys r).Nodup from nd)
    rcases List.mem_cons.mp h1 with e1 | m1 <;> rcases List.mem_cons.mp h2 with e2 | m2
    · rw [← e1] at e2
      cases e2
      rfl
    · rw [← e1] at n1
      exact (n1 (mem_keys (p := (P, b)) m2)).elim
    · rw [← e2] at n1
      exact (n1 (mem_keys (p := (P, a)) m1)).elim
    · exact nodup_ov n2 m1 m2
/-- a lambda is made -/
theorem Sat.made (S : Sat K B G O F σ H) {F1 H1 : Hp} {P c' : Addr} {q : Str} (hm : (P, OV.tab q) ∈ O) (md : Hz.Made F H F1 H1 P c' q) : Sat K B G O F1 σ H1 := by
  have hP : ∃ o, H P = some o := S.lt hm
  have nF : ∀ {a : Addr} {o : HO}, F a = none → H a = some o → F1 a = none := fun {a o} e1 e2 => by
    cases z : F1 a with
    | none => rfl
    | some u =>
      have w := md.new a e1 (by rw [z]; simp)
      rw [e2] at w
      cases w
  refine ⟨S.len, fun i d e => ?_, md.sH, S.nd, fun p hp => ?_, S.bF.trans md.sF, fun a u e1 e2 e3 => ?_⟩
  · obtain ⟨v, h1, h2⟩ := S.slot i d e
    exact ⟨v, h1, h2.mono md.sF⟩
  · obtain ⟨o, ho⟩ := S.lt hp
    refine ⟨nF (S.own p hp).1 ho, ?_⟩
    by_cases hb : p.1 = P
    · obtain ⟨a, ov⟩ := p
      dsimp only at hb
      subst hb
      rw [nodup_ov S.nd hp hm]
      exact md.tab
    · exact (S.own p hp).2.mono md.sF ((md.keep _ _ hb ho).trans ho.symm)
  · obtain ⟨h1, h2, h3⟩ := S.bH a u e1 e2 e3
    exact ⟨md.keep _ _ (fun z => h3 (z ▸ mem_keys hm)) h1, nF h2 h1, h3⟩
/-- more objects of which nothing is said -/
theorem Sat.ext (S : Sat K B G O F σ H) {H' : Hp} (e : Hz.Ext H H') : Sat K B G O F σ H' :=
  ⟨S.len, S.slot, fun b o z => e _ _ (S.ex b o z), S.nd, fun p hp => by
    obtain ⟨o, ho⟩ := S.lt hp
    exact ⟨(S.own p hp).1, (S.own p hp).2.mono (Same.refl _) ((e _ _ ho).trans ho.symm)⟩, S.bF, fun a u e1 e2 e3 => by
    obtain ⟨h1, h2, h3⟩ := S.bH a u e1 e2 e3
    exact ⟨e _ _ h1, h2, h3⟩⟩
end
/-- what a lambda's body is walked with -/
structure LamB (M : Mach) (X : Cx) (B : Bs) (N vn gl : List Str) (sc : Scope) (k : Nat) (Ψ : Xk) : Prop where
  C : Cxt M X N sc (fun x => vn.contains x) (fun _ => false) (fun x => gl.contains x)
  r : Room k X.A
  tk : L2N.Takes X (wD X.K B Ψ)
def lamSc (sc : Scope) (vn gl : List Str) : Bool := vn.all (fun x => visB sc x) && gl.all fun x => glB sc x
/-- the lambda's body, run wherever it may be -/
def tLamB (X : Cx) (k : Nat) (scope : Scope) (body : Expr) : XK → TE := fun E σ H Q => ∀ (A : Around) (outer : List Env) (s : Shared) (H0 : Hp) (f c' : Addr), Room k (A.deeper (lamEnv X scope s.heap.objs.size f c')) → tSem (Hz.lamN X A outer s H0 E scope f c') body σ H Q
/-- the def x, called with a lambda: TT what it makes of the lambda's body -/
def GDoor (M : Mach) (x a : Str) (Ng : List Str) (k : Nat) (TT : (XK → Hp → VK → Prop) → Hp → VK → Prop) : Prop :=
  ∃ (g : Addr) (st : Stmt) (fd : FuncData), M.mg x = some (.ref g) ∧ Fun M.K x x st g fd ∧ Binds M.K fd [a] [] ∧ FnScope Ng [a] (defScope st) ∧ Ng[0]? = some a ∧ Vis (defScope st) a ∧ (a == ("__debug__" : Str)) = false ∧ (a == ("__classdict__" : Str)) = false ∧
    ∀ (X : Cx) (cdv : Value) (q : Str), machOf X = M → Hz.GivesN X (k + 1) Ng x (defScope st) g cdv (defBody st) a q TT
theorem GDoor.mono {M : Mach} {x a : Str} {Ng : List Str} {j k : Nat} {TT : (XK → Hp → VK → Prop) → Hp → VK → Prop} (h : GDoor M x a Ng j TT) (l : j ≤ k) : GDoor M x a Ng k TT := by
  obtain ⟨g, st, fd, h1, h2, h3, h4, h5, h6, h7, h8, h9⟩ := h
  exact ⟨g, st, fd, h1, h2, h3, h4, h5, h6, h7, h8, fun X cdv q e f c' s H Q tl hr => h9 X cdv q e f c' s H Q tl (hr.mono (by omega))⟩
section
variable {M : Mach} {X : Cx} {N : List Str} {sc : Scope} {vb lb gb : Str → Bool} {B : Bs} {G : Sl} {O : Own} {body : Expr} {scope : Scope} {pos p lpos : Pos} {x a : Str} {Ng vn gl : List Str} {k : Nat} {TT : (XK → Hp → VK → Prop) → Hp → VK → Prop} {c P : Addr} {params : Arguments}
theorem we_door {Φ : D → Own → Prop} (T : GDoor M x a Ng k TT) (C : Cxt M X N sc vb lb gb) (hr : Room (k + 2) X.A) (TB : TabB M.base M.mg c P) (hcode : X.env.code = .ref c) (hm : (P, OV.tab (X.env.qual ++ "<lambda>")) ∈ O) (hg : gb x = true) (L : lamSB sc scope = true) (hdef : defaultsOf params X.env = ([], []))
    (hbind : ∀ (q : Str) (cl : List (Str × Addr)) (pm cv ctv : Value), bindArgs (PySem.W.kla_fn "<lambda>" q params body scope cl pm cv ctv) ⟨[], []⟩ = pure [])
    (hTT : ∀ F σ H, Sat X.K B G O F σ H → ∀ Q : VK, (∀ v F' H' d O', Sat X.K B G O' F' σ H' → Same F F' → Rep X.K F' v d → Φ d O' → Q v H') → TT (fun E H' Q' => tLamB X k scope body E σ H' Q') H Q) :
    WE X B G O (.Call (.Name x p) [.Lambda params body scope lpos] [] pos) Φ := fun F σ H S Q kk => by
  obtain ⟨g, st, fd, h1, h2, h3, h4, h5, h6, h7, h8, h9⟩ := T
  obtain ⟨oc, od, kV, doc, pm, an, cdv, ct, osl, rfl, lk, hcd⟩ := h2.ex
  have hM := C.hM
  subst hM
  have Ls : LamS X.env.scope scope := lamS_by (by rw [C.hsc]; exact L)
  refine sem (Hz.pe_trylam (t := tLamB X k scope body) (k := k) (C.gl x hg).1 h1 h2.kp lk hcd h3 h4 h5 h6 (h9 X cdv _ rfl) TB hcode hr Ls hdef hbind (fun A outer s H E f c' hr2 => ⟨fun pins s' σ' H' Q' I z => (z A outer s H f c' hr2).run pins s' I⟩) (C.gl x hg).2 h7 h8) ?_
  obtain ⟨hFP, hT⟩ := S.own _ hm
  exact ⟨F, S.ex, hFP, hT, fun F1 H1 c' md => hTT F1 σ H1 (S.made hm md) Q fun v F' H' d O' S' e' r' p' => kk v F' H' d O' S' (md.sF.trans e') r' p'⟩
/-- the lambda's body from its judgement -/
theorem tLam_of {Φ : D → Own → Prop} {Ψ : Xk} {E : XK} {F : Hp} {σ : L2.St} {H : Hp} {Q : VK} (C : Cxt M X N sc vb lb gb) (hL : lamSB sc scope = true) (hs : lamSc scope vn gl = true) (S : Sat X.K B G O F σ H)
    (hE : ∀ cls dd F' H' x G' O', Sat X.K B G O' F' σ H' → Same F F' → XRep X.K F' x cls dd → Ψ x G' O' → E cls dd H') (hq : ∀ v F' H' d O', Sat X.K B G O' F' σ H' → Same F F' → Rep X.K F' v d → Φ d O' → Q v H')
    (hb : ∀ X' B', LamB M X' B' N vn gl scope k Ψ → WE X' B' G O body Φ) : tLamB X k scope body E σ H Q := fun A outer s H0 f c' hr => by
  have Ls : LamS X.env.scope scope := lamS_by (by rw [C.hsc]; exact hL)
  unfold lamSc at hs
  rw [Bool.and_eq_true, List.all_eq_true, List.all_eq_true] at hs
  have S1 : Sat X.K B G (O ++ []) F σ H := by rw [List.append_nil]; exact S
  have S2 : Sat X.K ⟨F, H, keys O⟩ G O F σ H := S1.part S.len S.slot
  have back : ∀ {G' : Sl} {O' : Own} {F' : Hp} {σ' : L2.St} {H' : Hp}, Sat X.K ⟨F, H, keys O⟩ G' O' F' σ' H' → Sat X.K B G O' F' σ H' := fun {G' O' F' σ' H'} S' => by
    have z := S1.frame S'
    rw [List.append_nil] at z
    exact z
  have lb : LamB M (Hz.lamN X A outer s H0 E scope f c') ⟨F, H, keys O⟩ N vn gl scope k Ψ := by
    refine ⟨⟨C.hM, C.hN, rfl, Ls.kind, C.nd, rfl, passes_of rfl, hr.units, fun y hy => vis_of (hs.1 y (contains_mem hy)), fun y hy => (by cases hy), fun y hy => gl_of (hs.2 y (contains_mem hy))⟩, hr, ?_⟩
    exact Hz.lamN_takes.imp fun cls d σ' H' ⟨x, G', O', F', S', xr, w⟩ => hE cls d F' H' x G' O' (back S') S'.bF xr w
  exact hb _ _ lb F σ H S2 Q fun v F' H' d O' S' e r p => hq v F' H' d O' (back S') e r p
end
end Dl

set_option Elab.async false
set_option linter.all false
set_option maxRecDepth 100000
set_option maxHeartbeats 2000000
/-! D31: raise; range(a, b); == of a list of lists; y = [[a, b] for ..]. -/
namespace Dl
open PySem PySem.Spec PyProof.Rows L2
/-! ### raise -/
/-- an own exception class over ValueError, without __init__ -/
structure ExcF (M : Mach) (c : Addr) : Prop where
  q : PySem.W.excIn M.K c He.veBase "ValueError.__new__" = true
  k : PySem.W.keepIn M.K (.ref c) = true
  b : PySem.W.subIn M.K (.ref c) (.type "BaseException") = some true
  t : PySem.W.typeIn M.K (.ref c) = some (.type "type")
def GExc (M : Mach) (x : Str) : Prop := ∃ c, M.mg x = some (.ref c) ∧ ExcF M c
section
variable {M : Mach} {X : Cx} {N : List Str} {sc : Scope} {vb lb gb : Str → Bool} {B : Bs} {G : Sl} {O : Own} {e a b elt : Expr} {es : List Expr} {pos p p2 p3 : Pos} {d d1 d2 : D} {ds : List D} {E : EndsD} {Ψ : Xk} {x m : Str} {j : Nat}
theorem ws_raise (C : Cxt M X N sc vb lb gb) (tk : L2N.Takes X (wD X.K B Ψ)) (hx : GExc M x) (hg : gb x = true) (h : ∀ c, M.mg x = some (.ref c) → Ψ ⟨.ref c, none⟩ G O) : WS X B G O (.Raise (some (.Call (.Name x p) [.Constant (.str m) j p2] [] pos)) none p3) E := fun F σ H S D' k => by
  obtain ⟨c, hm, f⟩ := hx
  have hM := C.hM
  subst hM
  refine semS (L2N.ps_raise C.calm tk (L2N.pmk_own PySem.F.excBase_ValueError f.q hm f.k (raises_own f.b f.t) (C.gl x hg).1 (C.gl x hg).2)) ?_
  exact ⟨⟨.ref c, none⟩, G, O, F, S, ⟨rfl, rfl⟩, h c hm⟩
/-! ### x, y = 0, 0 -/
theorem swapC {env : Env} {x y : Str} {a b : Expr} {px py pt pt2 : Pos} {kt k2} (hst : ([a, b].any fun | .Starred .. => true | _ => false) = false) (hf : [a, b].all (foldedForSure 8) = true) : swappedStores [.Tuple [.Name x px, .Name y py] kt pt] (.Tuple [a, b] k2 pt2) env = pure none := by
  unfold swappedStores
  simp only [hf, hst]
  repeat' split
  all_goals first | rfl | (exfalso; simp_all)
theorem ws_parC {x y : Str} {px py pt pt2 : Pos} {kt k2} {vs : Nat → Prop} (h : WE X B G O (.Tuple [a, b] k2 pt2) fun d O' => WG X B G O' (.Tuple [.Name x px, .Name y py] kt pt) vs d E.nx) (hf : [a, b].all (foldedForSure 8) = true := by rfl) (hst : ([a, b].any fun | .Starred .. => true | _ => false) = false := by rfl)
    (hs : swapsWithSole [.Tuple [.Name x px, .Name y py] kt pt] (.Tuple [a, b] k2 pt2) pos.line X.env = pure false := by rfl) : WS X B G O (.Assign [.Tuple [.Name x px, .Name y py] kt pt] (.Tuple [a, b] k2 pt2) pos) E := ws_asg h hs (swapC hst hf) rfl
/-! ### range(a, b) -/
theorem wi_range2 {tg : Expr} {Φ : List D → Own → Own → Prop} (C : Cxt M X N sc vb lb gb) (hm : M.mg "range" = none) (hg : gb "range" = true)
    (h : WE X B G O a fun d O1 => WE X B G O1 b fun d2 O2 => ∃ i j : Int, d = .int i ∧ d2 = .int j ∧ (-(2 ^ 62) ≤ i ∧ i < 2 ^ 62 ∧ -(2 ^ 62) ≤ j ∧ j < 2 ^ 62) ∧ Φ ((List.range (j - i).toNat).map fun k => D.int (i + (k : Nat))) [] O2)
    (sa : starEach [a, b] X.env = (false, eval a X.env) :: starEach [b] X.env) (sb : Plain1 b := by exact fun _ _ => star_cons rfl) :
    WI X B G O tg (.Call (.Name "range" p) [a, b] [] pos) Φ := fun F σ H S R k =>
  semI (pi_range2 (C.gl _ hg).1 (by rw [C.mg]; exact hm) pa_sem (by rw [sa, sb]; rfl) (by rw [sb]; rfl)) ((wa_cons (h.mono fun d O1 z => wa_cons (z.mono fun d2 O2 w => wa_nil (Φ := fun ds O' => ∃ i j : Int, (d :: d2 :: ds) = [.int i, .int j] ∧ (-(2 ^ 62) ≤ i ∧ i < 2 ^ 62 ∧ -(2 ^ 62) ≤ j ∧ j < 2 ^ 62) ∧ Φ ((List.range (j - i).toNat).map fun k => D.int (i + (k : Nat))) [] O') (by
    obtain ⟨i, j, rfl, rfl, q⟩ := w
    exact ⟨i, j, rfl, q⟩)) (sb _ _)) sa : WA X B G O [a, b] fun ds O' => ∃ i j : Int, ds = [.int i, .int j] ∧ (-(2 ^ 62) ≤ i ∧ i < 2 ^ 62 ∧ -(2 ^ 62) ≤ j ∧ j < 2 ^ 62) ∧ Φ ((List.range (j - i).toNat).map fun k => D.int (i + (k : Nat))) [] O') F σ H S _ fun vs F1 H1 ds O1 S1 e1 r1 p1 => by
    obtain ⟨i, j, rfl, q1, q3⟩ := p1
    obtain ⟨v, w, rfl, rv, rw'⟩ := reps2 r1
    cases rv
    cases rw'
    exact ⟨i, j, rfl, q1, k _ F1 H1 _ [] O1 S1 e1 jok_range q3⟩)
/-! ### == of a list of lists of one's own -/
inductive PyOfs (O : Own) : List D → List PyData → Prop
  | nil : PyOfs O [] []
  | cons {d : D} {ds : List D} {q : PyData} {qs : List PyData} : PyOf O d q → PyOfs O ds qs → PyOfs O (d :: ds) (q :: qs)
def dEqDs (f : Bool → Bool) : DR2 := fun x y O Φ => ∃ a ds ps q, x = .obj a ∧ (a, OV.lst ds) ∈ O ∧ PyOfs O ds ps ∧ (∀ p ∈ ps, SeqAt.shaped p = true) ∧ SeqAt.shaped (.list ps) = true ∧ PyOf O y q ∧ SeqAt.shaped q = true ∧ Φ (.bl (f (PyData.eqv (.list ps) q))) O
theorem pyOfs_dp {K : PySem.W.Frag} {F H : Hp} {σ : L2.St} (S : Sat K B G O F σ H) : ∀ {vs : List V} {ds : List D} {ps : List PyData}, Reps K F vs ds → PyOfs O ds ps → (∀ p ∈ ps, SeqAt.shaped p = true) → DpAll K H vs ps
  | _, _, _, .nil, .nil, _ => .nil
  | _, _, _, .cons r rs, .cons h hs, c => .cons (pyOf_dp S r h (c _ List.mem_cons_self)) (pyOfs_dp S rs hs fun p hp => c p (List.mem_cons_of_mem _ hp))
theorem dop_eqDs : DOp X (rEqD X.K) (dEqDs id) := fun B G O F σ H x y dx dy Φ S rx ry h Q k => by
  obtain ⟨a, ds, ps, q, rfl, hm, hp, s0, s1, h2, s2, z⟩ := h
  obtain ⟨vs, hv, rs⟩ := own_get S hm
  cases rx
  exact ⟨_, q, .lst (SqL.of hv) (pyOfs_dp S rs hp s0), pyOf_dp S ry h2 s2, s1, s2, k _ F H _ O S (Same.refl _) (.bl _) z⟩
theorem pyOfs_cells : ∀ {cells : List (Addr × Int × Int)}, (∀ c ∈ cells, (c.1, OV.lst [.int c.2.1, .int c.2.2]) ∈ O) → PyOfs O (cells.map fun c => .obj c.1) (toPyL (cells.map fun c => .lst [.int c.2.1, .int c.2.2]))
  | [], _ => .nil
  | c :: r, h => .cons (.own (h c List.mem_cons_self)) (pyOfs_cells fun x hx => h x (List.mem_cons_of_mem _ hx))
theorem pt_eqNilC {cells : List (Addr × Int × Int)} {q : Addr} (C : Cxt M X N sc vb lb gb) (ha : PEv X B G O a (.obj q)) (hm : (q, OV.lst (cells.map fun c => .obj c.1)) ∈ O) (hs : ∀ c ∈ cells, (c.1, OV.lst [.int c.2.1, .int c.2.2]) ∈ O) : PTv X B G O (.Compare a [.Eq] [.List [] p] pos) cells.isEmpty :=
  (ptv_cmp (op_eqD C.un) dop_eqDs (nomark _) ha (pv_frz (pn_lst pa_nilv)) ⟨q, _, _, _, rfl, hm, pyOfs_cells hs, fun x hx => by
      have z : ∀ (cells : List (Addr × Int × Int)), x ∈ toPyL (cells.map fun c => D.lst [.int c.2.1, .int c.2.2]) → ∃ i j, x = .list [.int i, .int j] := fun cells => by
        induction cells with
        | nil => exact fun h => (List.not_mem_nil h).elim
        | cons c r ih =>
          intro h
          rcases List.mem_cons.mp h with e | e
          · exact ⟨_, _, e⟩
          · exact ih e
      obtain ⟨i, j, rfl⟩ := z cells hx
      rfl, shaped_map (f := fun c : Addr × Int × Int => D.lst [.int c.2.1, .int c.2.2]) fun x _ => ⟨rfl, Nat.le_of_ble_eq_true rfl⟩, .val (d := .lst []), rfl, rfl, rfl⟩ fun O Φ Ψ k ⟨a1, a2, a3, a4, b1, b2, b3, b4, b5, b6, b7, b8⟩ => ⟨a1, a2, a3, a4, b1, b2, b3, b4, b5, b6, b7, k _ _ b8⟩).to (by
    show PyData.eqv (.list _) (.list []) = _
    rw [eqv_nil]
    cases cells <;> rfl)
theorem pv_leLt {c : Expr} {i j l : Int} (ha : PEv X B G O a (.int i)) (hb : PEv X B G O b (.int j)) (hc : PEv X B G O c (.int l)) (hm : lastMarks [.LtE, .Lt] [b, c] = false := by with_unfolding_all rfl) : PEv X B G O (.Compare a [.LtE, .Lt] [b, c] pos) (.bl (decide (i ≤ j) && decide (j < l))) := pv_chain op_le op_lt ha hb hc hm
/-- if a op b op c -/
theorem ptv_chain {c : Expr} {op op' : CmpOp} {g g' : Int → Int → Bool} {i j l : Int} (ho : OpR X (compareOp op) (rI0 fun i j => .bl (g i j))) (ho' : OpR X (compareOp op') (rI0 fun i j => .bl (g' i j))) (ha : PEv X B G O a (.int i)) (hb : PEv X B G O b (.int j)) (hc : PEv X B G O c (.int l)) (hm : lastMarks [op, op'] [b, c] = false := by with_unfolding_all rfl) :
    PTv X B G O (.Compare a [op, op'] [b, c] pos) (g i j && g' j l) := fun F σ H S Q k => semT (pt_chain ho ho' pe_sem pe_sem pe_sem hm)
  (ha F σ H S _ fun v F1 H1 d1 O1 S1 e1 r1 p1 => by
    obtain ⟨rfl, rfl⟩ := p1
    cases r1
    refine hb F1 σ H1 S1 _ fun v F2 H2 d2 O2 S2 e2 r2 p2 => ?_
    obtain ⟨rfl, rfl⟩ := p2
    cases r2
    refine ⟨i, j, rfl, rfl, g i j, rfl, ?_⟩
    cases hg : g i j with
    | false => exact ⟨false, rfl, k _ F2 H2 O2 S2 (e1.trans e2) ⟨by rw [hg]; rfl, rfl⟩⟩
    | true =>
      refine hc F2 σ H2 S2 _ fun v F3 H3 d3 O3 S3 e3 r3 p3 => ?_
      obtain ⟨rfl, rfl⟩ := p3
      cases r3
      exact ⟨j, l, rfl, rfl, _, rfl, k _ F3 H3 O3 S3 ((e1.trans e2).trans e3) ⟨by rw [hg]; rfl, rfl⟩⟩)
theorem pt_leLt {c : Expr} {i j l : Int} (ha : PEv X B G O a (.int i)) (hb : PEv X B G O b (.int j)) (hc : PEv X B G O c (.int l)) (hm : lastMarks [.LtE, .Lt] [b, c] = false := by with_unfolding_all rfl) : PTv X B G O (.Compare a [.LtE, .Lt] [b, c] pos) (decide (i ≤ j) && decide (j < l)) := ptv_chain op_le op_lt ha hb hc hm
/-! ### y = [[a, b] for ..] -/
theorem LcTurn.mono {scope : Scope} {vs : List Nat} {tg : Expr} {ifs : List Expr} {Yes Yes' : D → Own → Prop} {No No' : Own → Prop} (h : LcTurn M X N sc scope G vs O tg ifs elt d Yes No) (k1 : ∀ y O', Yes y O' → Yes' y O') (k2 : ∀ O', No O' → No' O') : LcTurn M X N sc scope G vs O tg ifs elt d Yes' No' :=
  fun X' B' b F σ H v S r Q k => h X' B' b F σ H v S r Q fun G2 O2 F2 σ2 H2 S2 e2 t2 p2 => k G2 O2 F2 σ2 H2 S2 e2 t2 fun X2 b2 F3 σ3 H3 S3 Q3 k3 => p2 X2 b2 F3 σ3 H3 S3 Q3 fun bb F4 H4 O4 S4 e4 p4 => k3 bb F4 H4 O4 S4 e4 (by
    cases bb with
    | true =>
      rw [if_pos rfl] at p4 ⊢
      exact fun X3 b3 => (p4 X3 b3).mono k1
    | false =>
      rw [if_neg Bool.false_ne_true] at p4 ⊢
      exact k2 _ p4)
theorem lc_cells {α : Type} {enc : α → D} {f : α → Int × Int} {scope : Scope} {own : List (Str × Nat)} {tg iter : Expr} {ifs : List Expr} {Φ : List D → Own → Prop}
    (h : WI X B G O tg iter fun ds lk O1 => ∃ xs : List α, ds = xs.map enc ∧ (∀ p ∈ lk, p ∈ O1) ∧ xs.length ≤ 1000000 ∧
      (∀ x ∈ xs, ∀ (O' : Own) (Yes : D → Own → Prop), (∀ p ∈ O1, p ∈ O') → (∀ p, Yes (.obj p) ((p, .lst [.int (f x).1, .int (f x).2]) :: O')) → LcTurn M X N sc scope G (own.map (·.2)) O' tg ifs elt (enc x) Yes fun _ => False) ∧
      ∀ cells : List (Addr × Int × Int), cells.map (fun c => c.2) = xs.map f → Φ (cells.map fun c => .obj c.1) ((cells.map fun c => (c.1, OV.lst [.int c.2.1, .int c.2.2])).reverse ++ O1)) :
    Lc M X N sc scope B G O (own.map (·.2)) tg iter ifs elt Φ := h.mono fun ds lk O1 z => by
  obtain ⟨xs, rfl, hk, hl, ht, q⟩ := z
  refine ⟨fun i acc O' => ∃ cells : List (Addr × Int × Int), cells.map (fun c => c.2) = (xs.take i).map f ∧ acc = cells.map (fun c => .obj c.1) ∧ O' = (cells.map fun c => (c.1, OV.lst [.int c.2.1, .int c.2.2])).reverse ++ O1, ⟨[], rfl, rfl, rfl⟩, fun i acc O' _ z p hp => ?_, fun i d acc O' hd z => ?_, fun acc O' z => ?_⟩
  · obtain ⟨cells, _, _, rfl⟩ := z
    exact List.mem_append_right _ (hk p hp)
  · obtain ⟨cells, h1, rfl, rfl⟩ := z
    rw [List.getElem?_map] at hd
    cases e : xs[i]? with
    | none => rw [e] at hd; cases hd
    | some x =>
      rw [e] at hd
      have hd' : enc x = d := Option.some.inj hd
      subst hd'
      have tk : xs.take (i + 1) = xs.take i ++ [x] := by rw [List.take_add_one, e] <;> rfl
      have hi' : i < xs.length := (List.getElem?_eq_some_iff.mp e).1
      have hlen : cells.length ≤ i := by
        have z := congrArg List.length h1
        rw [List.length_map, List.length_map, List.length_take] at z
        omega
      refine LcTurn.mono (ht x (List.mem_of_getElem? e) _ (fun y O4 => (cells.map fun c => D.obj c.1).length < 1000000 ∧ ∃ cells' : List (Addr × Int × Int), cells'.map (fun c => c.2) = (xs.take (i + 1)).map f ∧ (cells.map fun c => D.obj c.1) ++ [y] = cells'.map (fun c => .obj c.1) ∧ O4 = (cells'.map fun c => (c.1, OV.lst [.int c.2.1, .int c.2.2])).reverse ++ O1) (fun p hp => List.mem_append_right _ hp) (fun p => ⟨by rw [List.length_map]; omega, cells ++ [(p, f x)], ?_, ?_, ?_⟩)) (fun _ _ z => z) fun _ z => z.elim
      · rw [tk, List.map_append, List.map_append, h1]
        rfl
      · rw [List.map_append]
        rfl
      · rw [List.map_append, List.reverse_append]
        rfl
  · obtain ⟨cells, h1, rfl, rfl⟩ := z
    rw [List.length_map, List.take_length] at h1
    exact q cells h1
end
end Dl

set_option Elab.async false
set_option linter.all false
set_option maxRecDepth 100000
set_option maxHeartbeats 2000000
/-! D32: lambdas with parameters as values; range(a, b, c); max, min of a list. -/
namespace Dl
open PySem PySem.Spec PyProof.Rows L2 LamX
section
variable {X : Cx} {pins : List (Addr × Obj)} {σ : L2.St} {H F : Hp} {s : Shared}
/-- the making of a lambda that captures nothing: it is tracked -/
theorem lam_makeP {c P : Addr} {params : Arguments} {body : Expr} {scope : Scope} {pos : Pos} {E : Value → Shared → Prop} {Q : Value → Shared → Prop} (I : Inv X pins σ H s) (TB : TabB X.base X.mg c P) (hcode : X.env.code = .ref c)
    (sFH : Same F H) (hFP : F P = none) (hT : TabF F H P (X.env.qual ++ "<lambda>")) (hdef : defaultsOf params X.env = ([], [])) (hfree : ∀ y ∈ scope.names, y.2 ≠ .free)
    (h : ∀ (f c' : Addr) (F1 H1 : Hp) (s' : Shared), Hz.Made F H F1 H1 P c' (X.env.qual ++ "<lambda>") → H1 f = none → Inv X pins σ (upd H1 f (LamO f ⟨params, body, scope, X.env.qual ++ "<lambda>"⟩ c')) s' → Q (.ref f) s') :
    wpAny (model X.prog X.w) X.A (eval (.Lambda params body scope pos) X.env) Q E s := by
  obtain ⟨ps, hP, ht, hcs⟩ := hT
  have bP : s.heap.BuiltinsAt X.mg P := TB.bm.keeps I.bk
  have gP : s.heap.get? P = some { cls := .none, data := .fields ps } := I.hok P _ hP
  have hcl : cloFrom X.env.cells scope.names [] = [] := by
    have : ∀ l : List (Str × NameKind), (∀ y ∈ l, y.2 ≠ .free) → ∀ acc, cloFrom X.env.cells l acc = acc := fun l => by
      induction l with
      | nil => exact fun _ acc => rfl
      | cons a r ih =>
        intro hn acc
        obtain ⟨n, k⟩ := a
        have hk : k ≠ .free := hn (n, k) List.mem_cons_self
        have ih := ih fun y hy => hn y (List.mem_cons_of_mem _ hy)
        cases k <;> first | exact ih acc | exact absurd rfl hk
    exact this _ hfree []
  have hfr : ∀ y ∈ scope.names, y.2 = .free → ∃ c, X.env.cells.lookup y.1 = some c := fun y hy e => absurd e (hfree y hy)
  have laid : ∀ {Ha : Hp} {sa : Shared} {ctv pm : Value} {c' : Addr} {tk : Nat}, Inv X pins σ Ha sa → Inv X pins σ (upd Ha sa.heap.objs.size (LamO sa.heap.objs.size ⟨params, body, scope, X.env.qual ++ "<lambda>"⟩ c')) { sa with heap := sa.heap.push (PySem.W.kla_obj "<lambda>" (X.env.qual ++ "<lambda>") params body scope [] pm c' ctv), toks := tk } := fun {Ha sa ctv pm c' tk} Ia => by
    refine Ia.laid (fun b u e => Heap.get?_push_of_some _ e) (Nat.le_refl _) ?_
    have e := Heap.get?_push_size sa.heap (o := PySem.W.kla_obj "<lambda>" (X.env.qual ++ "<lambda>") params body scope [] pm c' ctv) rfl
    exact ⟨⟨pm, ctv, e⟩, ⟨_, e⟩, fun h1 h2 ⟨p, t, z⟩ st => ⟨p, t, st _ z⟩⟩
  refine PySem.W.kla_eval hdef ?_
  cases hc : codeAmong pos ps.toList with
  | some cv =>
    obtain ⟨c', e, hco⟩ := hcs pos cv hc
    subst e
    refine PySem.W.kla_makeFunctionHit (mg := X.mg) (c := c) (P := P) (ps := ps) (closure_ok hfr) I.ok.glob (I.mod.glob.keeps I.bk) hcode (TB.code.keeps I.bk) gP ht hc bP fun ctv h' tk hx hsz => ?_
    have I1 : Inv X pins σ H { s with heap := h', toks := tk } := I.kept (t' := tk) fun b o e => hx b o e
    rw [hcl]
    exact h h'.objs.size c' F H _ ⟨Same.refl _, sFH, ⟨ps, hP, ht, hcs⟩, fun _ _ _ e => e, fun b e n => absurd e n, hco⟩ (I1.hok.fresh (Nat.le_refl _)) (laid (tk := tk) I1)
  | none =>
    refine PySem.W.kla_makeFunction (mg := X.mg) (c := c) (P := P) (ps := ps) (closure_ok hfr) I.ok.glob (I.mod.glob.keeps I.bk) hcode (TB.code.keeps I.bk) gP ht hc TB.gP bP fun c' ctv h' tk hx hge hlt hrec htb => ?_
    obtain ⟨c2, oc, vs, t, e2, hoc, hd, hv⟩ := hrec
    cases e2
    have nC : H c' = none := I.hok.fresh hge
    have nFC : F c' = none := sFH.free nC
    have nPc : P ≠ c' := ne_of_none hP nC
    have I1 := inv_table (t' := tk) (more := #[rawInt pos.line, rawInt pos.col, .ref c']) (h' := h') I hP (fun b o hb e => hx b o hb e) htb hge ⟨oc, vs, t, hoc, hd, hv⟩
    have eL : (ps ++ #[rawInt pos.line, rawInt pos.col, .ref c']).toList = ps.toList ++ [rawInt pos.line, rawInt pos.col, .ref c'] := by simp
    rw [hcl]
    refine h h'.objs.size c' (upd F c' (CodeO c' (X.env.qual ++ "<lambda>"))) _ _ ⟨same_upd nFC, fun b o e => ?_, ⟨_, by rw [upd_ne nPc, upd_same], by rw [eL]; exact PySem.TriplesOk_snoc _ _ _ _ ht, fun p' cv hcv => ?_⟩, fun b o n e => ?_, fun b e n => ?_, upd_same⟩ (I1.hok.fresh (Nat.le_refl _)) (laid (tk := tk) I1)
    · by_cases hb : b = c'
      · rw [hb, upd_same] at e
        rw [hb, upd_same]; exact e
      · rw [upd_ne hb] at e
        rw [upd_ne hb, upd_ne (fun z => by rw [z, hFP] at e; cases e)]
        exact sFH b o e
    · rw [eL] at hcv
      rcases among_app _ ht hcv with z | z
      · obtain ⟨c0, e1, e2⟩ := hcs p' cv z
        exact ⟨c0, e1, same_upd nFC _ _ e2⟩
      · exact ⟨c', z, upd_same⟩
    · rw [upd_ne (ne_of_none e nC), upd_ne n]
      exact e
    · by_cases hb : b = c'
      · rw [hb]; exact nC
      · rw [upd_ne hb] at n
        exact absurd e n
def tLamP (P : Addr) (params : Arguments) (body : Expr) (scope : Scope) (q : Str) : TE := fun _ H Q => ∃ F, Same F H ∧ F P = none ∧ TabF F H P q ∧ ∀ F1 H1 c' f, Hz.Made F H F1 H1 P c' q → H1 f = none → Q (.ref f) (upd H1 f (LamO f ⟨params, body, scope, q⟩ c'))
theorem pe_lamP {c P : Addr} {params : Arguments} {body : Expr} {scope : Scope} {pos : Pos} (TB : TabB X.base X.mg c P) (hcode : X.env.code = .ref c) (hdef : defaultsOf params X.env = ([], [])) (hfree : ∀ y ∈ scope.names, y.2 ≠ .free) :
    PE X (.Lambda params body scope pos) (tLamP P params body scope (X.env.qual ++ "<lambda>")) :=
  ⟨fun pins s σ H Q I ⟨F, sF, hF, hT, h⟩ => lam_makeP I TB hcode sF hF hT hdef hfree fun f c' F1 H1 s' md nf I' => ⟨.ref f, _, I', rfl, h F1 H1 c' f md nf⟩⟩
/-! ### calling it -/
theorem run_lam {CX : CXT} {P : Program} {w : World} {K : PySem.W.Frag} {mg : Str → Option Value} {base : Heap} {k : Nat} {f c' : Addr} {L : LamW} {N ps : List Str} {A : Around} {outer : List Env} {s : Shared} {H : Hp} {us : List Value} {vs : List V} {Q : VK} {E : XK}
    (hL : H f = some (LamO f L c')) (hC : H c' = some (CodeO c' L.q)) (S : FnScope N ps L.scope) (hr : Room (k + 1) A) (e0 : Env0 P w K mg base A outer s H) (hb : ∀ (pm ctv : Value) (us : List Value), us.length = ps.length → bindArgs (PySem.W.kla_fn "<lambda>" L.q L.params L.body L.scope [] pm (.ref c') ctv) ⟨us, []⟩ = pure (ps.zip us)) (r : Vals vs us) (hl : vs.length = ps.length)
    (hbody : Room k (A.deeper (envOfC L.q L.scope s.heap.objs.size f (.ref c'))) → tSem (cxOf CX P w K mg base N L.q L.scope f (.ref c') A outer s H E) L.body (L2.start N vs) H Q) :
    codeAny (model P w) A (.call (.ref f) ⟨us, []⟩) (CR CX outer P w H s Q E) s := by
  obtain ⟨⟨pm, ctv, of1⟩, _, _⟩ := e0.hok f _ hL
  obtain ⟨⟨oc, ws, t, hoc, hdc, hvc⟩, _, _⟩ := e0.hok c' _ hC
  have lim : s.heap.NoLimit := e0.mod.nolimit.keeps fun b o e => (e0.bs b o e).1
  refine PySem.W.kla_callFunE hr.depth of1 rfl S.co S.gen rfl ⟨c', oc, ws, t, rfl, hoc, hdc, hvc⟩ ?_
  rw [hb pm ctv us (by rw [← r.length]; exact hl)]
  refine wpAny_pure ?_
  have hkind : ∀ y ∈ ps.zip us, L.scope.names.lookup y.1 = some .local ∨ (L.scope.names.lookup y.1 = some .cell ∧ ((cellsFrom (s.heap.objs.size + 1) L.scope.names []).lookup y.1).isSome = true) := fun ⟨n, v⟩ hy => by
    rcases S.par n (List.of_mem_zip hy).1 with q | q
    · exact .inl q
    · exact .inr ⟨q, PySem.W.cellsFrom_some _ _ _ (.inl q)⟩
  refine wpAny_newFunctionEnv_cells S.kind hkind fun env he s1 x => ?_
  subst he
  refine ⟨lim.keeps x.toInCall.keep, ?_⟩
  have I : Inv (cxOf CX P w K mg base N L.q L.scope f (.ref c') A outer s H E) [] (L2.start N vs) H s1 := inv_start S hr.hd e0 hl r x
  refine PySem.W.kla_codeExpr (wpAny_mono ((hbody (hr.deeper _)).run [] s1 I) (fun v s' ⟨w', H', J, rv, q⟩ => ⟨w', H', J.os, J.bare, J.base, J.hok, rv, q⟩) fun e s' hq => hq)
/-- x(..), x a name that holds a lambda -/
def tCallL (f : Addr) (L : LamW) (sp : Sp) (i : Nat) (E : L2.St → XK) (t : TA) : TE := fun σ H Q => (∃ c', H f = some (LamO f L c')) ∧ σ[i]? = some (some (.ref f)) ∧ t σ H fun vs H1 => sp vs H1 Q (E σ)
theorem pe_callL {f : Addr} {L : LamW} {x : Str} {i k : Nat} {N ps : List Str} {sp : Sp} {E : L2.St → XK} {t : TA} {p pos : Pos} {e : Expr} {es : List Expr} (hi : X.N[i]? = some x) (hv : Vis X.env.scope x) (hd : (x == ("__debug__" : Str)) = false) (hcd : (x == ("__classdict__" : Str)) = false) (S : FnScope N ps L.scope) (hr : Room (k + 1) X.A)
    (hb : ∀ (c' : Addr) (pm ctv : Value) (us : List Value), us.length = ps.length → bindArgs (PySem.W.kla_fn "<lambda>" L.q L.params L.body L.scope [] pm (.ref c') ctv) ⟨us, []⟩ = pure (ps.zip us)) (hx : ∀ σ, PassesAt (L2N.CX X.prog X.w) X σ (E σ)) (ha : PA X (e :: es) t)
    (hsp : ∀ (vs : List V) (H : Hp) (Q : VK) (E : XK), sp vs H Q E → vs.length = ps.length ∧ ∃ c', H f = some (LamO f L c') ∧ H c' = some (CodeO c' L.q) ∧ ∀ (A : Around) (outer : List Env) (s : Shared), Room k (A.deeper (envOfC L.q L.scope s.heap.objs.size f (.ref c'))) → tSem (cxOf (L2N.CX X.prog X.w) X.prog X.w X.K X.mg X.base N L.q L.scope f (.ref c') A outer s H E) L.body (L2.start N vs) H Q)
    (he : starEach (e :: es) X.env = (false, eval e X.env) :: starEach es X.env) (hpl : (backTo pos (starEach es X.env)).any (·.1) = false) : PE X (.Call (.Name x p) (e :: es) [] pos) (tCallL f L sp i E t) := by
  refine ⟨fun pins s σ H Q I ⟨⟨c0, h0⟩, hs, h⟩ => ?_⟩
  refine wpAny_Call_Name_kw (thn ((pe_var (pos := p) (i := i) hi hv hd hcd).run pins s σ H (fun v H1 => v = .ref f ∧ H1 = H) I ⟨.ref f, hs, rfl, rfl⟩) fun u s1 ⟨v, H1, I1, r1, ev, eH⟩ => ?_)
  subst ev
  rw [eH] at I1
  obtain rfl : u = Value.ref f := r1
  obtain ⟨⟨pm0, ctv0, of0⟩, _, _⟩ := I1.hok f _ h0
  refine PySem.W.callWith_F ⟨_, _, _, _, of0⟩ (thn (ha.run pos pins s1 σ H _ I1 h) fun us s2 ⟨vs, H2, I2, r2, z⟩ => ?_) he hpl
  obtain ⟨hl, c', h1, h2, hbody⟩ := hsp vs H2 Q (E σ) z
  obtain ⟨⟨pm, ctv, of1⟩, _, _⟩ := I2.hok f _ h1
  refine ⟨⟨_, _, _, _, of1⟩, ?_⟩
  have rc := run_lam (CX := L2N.CX X.prog X.w) (Q := Q) (E := E σ) h1 h2 S hr I2.env0 (hb c') r2 hl fun hr' => hbody X.A X.stack s2 hr'
  refine wpAny_call (codeAny_mono rc fun r s' hq => ?_)
  cases r with
  | error e => exact hx σ pins H2 s2 e s' I2 hq
  | ok fl => cases fl with
    | ret u => exact I2.after hq
    | next => exact hq.elim
    | brk => exact hq.elim
    | cont => exact hq.elim
end
section
variable {M : Mach} {X : Cx} {N : List Str} {sc : Scope} {vb lb gb : Str → Bool} {B : Bs} {G : Sl} {O : Own} {e a b : Expr} {es : List Expr} {pos p : Pos} {x : Str} {k : Nat} {c P : Addr} {params : Arguments} {body : Expr} {scope : Scope}
theorem we_lam {Φ : D → Own → Prop} (C : Cxt M X N sc vb lb gb) (TB : TabB M.base M.mg c P) (hcode : X.env.code = .ref c) (hm : (P, OV.tab (X.env.qual ++ "<lambda>")) ∈ O) (hfree : scope.names.all (fun y => !decide (y.2 = .free)) = true)
    (q : ∀ f, Φ (.obj f) ((f, .lam ⟨params, body, scope, X.env.qual ++ "<lambda>"⟩) :: O)) (hdef : defaultsOf params X.env = ([], []) := by rfl) : WE X B G O (.Lambda params body scope pos) Φ := fun F σ H S Q kk => by
  have hM := C.hM
  subst hM
  have hf : ∀ y ∈ scope.names, y.2 ≠ .free := fun y hy e => by
    have z := List.all_eq_true.mp hfree y hy
    rw [decide_eq_true e] at z
    cases z
  obtain ⟨hFP, hT⟩ := S.own _ hm
  refine sem (pe_lamP TB hcode hdef hf) ⟨F, S.ex, hFP, hT, fun F1 H1 c' f md nf => ?_⟩
  exact kk _ F1 _ _ _ ((S.made hm md).allocOwn nf (ov := .lam ⟨params, body, scope, X.env.qual ++ "<lambda>"⟩) ⟨c', upd_same, md.code⟩) md.sF (.obj f) (q f)
theorem we_callL {L : LamW} {f : Addr} {ps gl : List Str} {Φ : D → Own → Prop} {Ψ : Xk} (C : Cxt M X N sc vb lb gb) (hx : VarAt N G x (.obj f)) (hv : vb x = true) (hr : Room (k + 1) X.A) (tk : L2N.Takes X (wD X.K B Ψ)) (hm0 : (f, OV.lam L) ∈ O) (S : FnScope ps ps L.scope) (hsc : lamSc L.scope ps gl = true) 
    (hb : ∀ (c' : Addr) (pm ctv : Value) (us : List Value), us.length = ps.length → bindArgs (PySem.W.kla_fn "<lambda>" L.q L.params L.body L.scope [] pm (.ref c') ctv) ⟨us, []⟩ = pure (ps.zip us))
    (h : WA X B G O (e :: es) fun ds O1 => (f, OV.lam L) ∈ O1 ∧ ds.length = ps.length ∧ ∀ X' B', LamB M X' B' ps ps gl L.scope k (fun y _ O' => Ψ y G O') → WE X' B' (ds.map some) O1 L.body Φ)
    (he : starEach (e :: es) X.env = (false, eval e X.env) :: starEach es X.env := by exact star_cons rfl) (hpl : (backTo pos (starEach es X.env)).any (·.1) = false := by rfl) : WE X B G O (.Call (.Name x p) (e :: es) [] pos) Φ := fun F σ H S0 Q kk => by
  have hM := C.hM
  subst hM
  obtain ⟨i, h1, h2⟩ := hx.ix
  obtain ⟨w1, w2, w3⟩ := C.vis x hv
  obtain ⟨v, ev, rv⟩ := S0.slot i _ h2
  cases rv
  unfold lamSc at hsc
  rw [Bool.and_eq_true, List.all_eq_true, List.all_eq_true] at hsc
  refine sem (pe_callL (f := f) (L := L) (i := i) (N := ps) (ps := ps) (k := k) (E := fun σ cls dd H => wD X.K B Ψ cls dd σ H)
    (sp := fun vs H Q E => vs.length = ps.length ∧ ∃ c', H f = some (LamO f L c') ∧ H c' = some (CodeO c' L.q) ∧ ∀ (A : Around) (outer : List Env) (s : Shared), Room k (A.deeper (envOfC L.q L.scope s.heap.objs.size f (.ref c'))) → tSem (cxOf (L2N.CX X.prog X.w) X.prog X.w X.K X.mg X.base ps L.q L.scope f (.ref c') A outer s H E) L.body (L2.start ps vs) H Q)
    (by rw [C.hN]; exact h1) w1 w2 w3 S hr hb (fun σ => L2N.passAt tk σ) pa_sem (fun vs H Q E z => z) he hpl) ?_
  obtain ⟨_, c0, hc0, _⟩ := S0.own _ hm0
  refine ⟨⟨c0, hc0⟩, ev, ?_⟩
  refine h F σ H S0 _ fun vs F1 H1 ds O1 S1 e1 r1 ⟨m1, l1, body⟩ => ?_
  obtain ⟨_, c', hc1, hc2⟩ := S1.own _ m1
  refine ⟨by rw [r1.length]; exact l1, c', hc1, S1.ex _ _ hc2, fun A outer s hr' => ?_⟩
  have S1' : Sat X.K B G (O1 ++ []) F1 σ H1 := by rw [List.append_nil]; exact S1
  have back : ∀ {G' : Sl} {O' : Own} {F' : Hp} {σ' : L2.St} {H' : Hp}, Sat X.K ⟨F1, H1, keys O1⟩ G' O' F' σ' H' → Sat X.K B G O' F' σ H' := fun {G' O' F' σ' H'} S' => by
    have z := S1'.frame S'
    rw [List.append_nil] at z
    exact z
  have lb : LamB (machOf X) (cxOf (L2N.CX X.prog X.w) X.prog X.w X.K X.mg X.base ps L.q L.scope f (.ref c') A outer s H1 fun cls dd H => wD X.K B Ψ cls dd σ H) ⟨F1, H1, keys O1⟩ ps ps gl L.scope k (fun y _ O' => Ψ y G O') := by
    refine ⟨⟨rfl, rfl, rfl, S.kind, S.nd, rfl, passes_of rfl, hr'.units, fun y hy => vis_of (hsc.1 y (contains_mem hy)), fun y hy => (by cases hy), fun y hy => gl_of (hsc.2 y (contains_mem hy))⟩, hr', ?_⟩
    exact (L2N.takes_of rfl rfl rfl rfl).imp fun cls dd σ' H' ⟨y, G', O', F', S', xr, w⟩ => ⟨y, G, O', F', back S', xr, w⟩
  have el : L2.start ps vs = vs.map some := by
    unfold L2.start
    rw [show ps.length - vs.length = 0 by rw [r1.length, l1]; omega]
    simp
  rw [el]
  refine body _ _ lb F1 (vs.map some) H1 (S1'.part (by rw [List.length_map, List.length_map, r1.length]) fun i d hd => ?_) Q fun v F' H' d O' S' e' r' q' => kk v F' H' d O' (back S') (e1.trans e') r' q'
  rw [List.getElem?_map] at hd
  cases e2 : ds[i]? with
  | none => rw [e2] at hd; cases hd
  | some d' =>
    rw [e2] at hd
    cases hd
    obtain ⟨v, g1, g2⟩ := r1.get e2
    exact ⟨v, by rw [List.getElem?_map, g1]; rfl, g2⟩
/-! ### range(a, b, c) -/
theorem jok_rangeC {K : PySem.W.Frag} {F : Hp} {lo c : Int} {n : Nat} : JOk K (Itc lo c n) F [] ((List.range n).map fun i => D.int (lo + (i : Nat) * c)) where
  go := fun i F2 H2 e1 e2 _ hi => by
    show i < n
    simpa using hi
  stop := fun F2 H2 e1 e2 _ => by
    show n ≤ _
    simp
  yld := fun i F2 H2 x H3 e1 e2 _ hi y => by
    obtain ⟨rfl, rfl⟩ := y
    have hi' : i < n := by simpa using hi
    exact ⟨.int (lo + (i : Nat) * c), by simp [hi'], .inl ⟨rfl, .int _⟩⟩
theorem wi_range3 {tg c : Expr} {Φ : List D → Own → Own → Prop} {i j l : Int} {n : Nat} (C : Cxt M X N sc vb lb gb) (hm : M.mg "range" = none) (hg : gb "range" = true) (h : PAv X B G O [a, b, c] [.int i, .int j, .int l]) (hr : RgC i j l n) (q : Φ ((List.range n).map fun k => D.int (i + (k : Nat) * l)) [] O)
    (hs : starEach [a, b, c] X.env = (false, eval a X.env) :: starEach [b, c] X.env := by exact star_cons rfl) (hpl : (backTo pos (starEach [b, c] X.env)).any (·.1) = false := by rfl) :
    WI X B G O tg (.Call (.Name "range" p) [a, b, c] [] pos) Φ := fun F σ H S R k =>
  semI (pi_range3 (C.gl _ hg).1 (by rw [C.mg]; exact hm) pa_sem hs hpl) (h F σ H S _ fun vs F1 H1 ds O1 S1 e1 r1 p1 => by
    obtain ⟨rfl, rfl⟩ := p1
    cases r1 with
    | cons r ra => cases ra with
      | cons r' ra => cases ra with
        | cons r'' ra =>
          cases ra
          cases r
          cases r'
          cases r''
          exact ⟨i, j, l, n, rfl, hr, k _ F1 H1 _ [] O1 S1 e1 jok_rangeC q⟩)
/-! ### max, min of a list -/
theorem we_maxL {Φ : D → Own → Prop} (C : Cxt M X N sc vb lb gb) (hm : M.mg "max" = none) (hg : gb "max" = true) (h : WE X B G O a fun d O1 => ∃ ns : List Int, ItemsL O1 d (ns.map D.int) ∧ 0 < ns.length ∧ ∀ m, m ∈ ns → (∀ y ∈ ns, y ≤ m) → Φ (.int m) O1) (sa : Plain1 a := by exact fun _ _ => star_cons rfl) : WE X B G O (.Call (.Name "max" p) [a] [] pos) Φ :=
  we_callB (R := fun xs O Φ => ∃ (d : D) (ns : List Int), xs = [d] ∧ ItemsL O d (ns.map D.int) ∧ 0 < ns.length ∧ ∀ m, m ∈ ns → (∀ y ∈ ns, y ≤ m) → Φ (.int m) O) C (cr_max C.calm) (fun B G O F σ H xs ds Φ S r h Q k => by
    obtain ⟨d, ns, rfl, it, h0, q⟩ := h
    obtain ⟨v, rfl, rv⟩ := reps1 r
    obtain ⟨a, vs, rfl, rs, hq⟩ := itemsL_ok S rv it
    rw [reps_ints rs] at hq
    exact ⟨a, ns, rfl, hq, h0, fun m h1 h2 => k _ F H _ O S (Same.refl _) (.int _) (q m h1 h2)⟩) hm hg (by decide +kernel) (wa_cons (h.mono fun d O1 z => wa_nil (by
      obtain ⟨ns, it, h0, q⟩ := z
      exact ⟨d, ns, rfl, it, h0, q⟩)) (sa _ _)) (he := sa _ _)
theorem we_minL {Φ : D → Own → Prop} (C : Cxt M X N sc vb lb gb) (hm : M.mg "min" = none) (hg : gb "min" = true) (h : WE X B G O a fun d O1 => ∃ ns : List Int, ItemsL O1 d (ns.map D.int) ∧ 0 < ns.length ∧ ∀ m, m ∈ ns → (∀ y ∈ ns, m ≤ y) → Φ (.int m) O1) (sa : Plain1 a := by exact fun _ _ => star_cons rfl) : WE X B G O (.Call (.Name "min" p) [a] [] pos) Φ :=
  we_callB (R := fun xs O Φ => ∃ (d : D) (ns : List Int), xs = [d] ∧ ItemsL O d (ns.map D.int) ∧ 0 < ns.length ∧ ∀ m, m ∈ ns → (∀ y ∈ ns, m ≤ y) → Φ (.int m) O) C (cr_min C.calm) (fun B G O F σ H xs ds Φ S r h Q k => by
    obtain ⟨d, ns, rfl, it, h0, q⟩ := h
    obtain ⟨v, rfl, rv⟩ := reps1 r
    obtain ⟨a, vs, rfl, rs, hq⟩ := itemsL_ok S rv it
    rw [reps_ints rs] at hq
    exact ⟨a, ns, rfl, hq, h0, fun m h1 h2 => k _ F H _ O S (Same.refl _) (.int _) (q m h1 h2)⟩) hm hg (by decide +kernel) (wa_cons (h.mono fun d O1 z => wa_nil (by
      obtain ⟨ns, it, h0, q⟩ := z
      exact ⟨d, ns, rfl, it, h0, q⟩)) (sa _ _)) (he := sa _ _)
end
end Dl

set_option Elab.async false
set_option linter.all false
set_option maxRecDepth 100000
set_option maxHeartbeats 2000000
/-! D33: range(0, n, c) upwards; int(x). -/
namespace Dl
open PySem PySem.Spec PyProof.Rows L2
theorem rgC_up {j c : Int} {n : Nat} (hj : 0 < j) (hj2 : j < 2 ^ 60) (hc : 0 < c) (hc2 : c < 1073741824) (h1 : ((n : Int) - 1) * c < j) (h2 : j ≤ n * c) : RgC 0 j c n := by
  have e : (j - 0 - 1) / c + 1 = n := by
    have z1 : (n : Int) - 1 ≤ (j - 0 - 1) / c := (Int.le_ediv_iff_mul_le hc).mpr (by omega)
    have z2 : (j - 0 - 1) / c < n := (Int.ediv_lt_iff_lt_mul hc).mpr (by omega)
    omega
  have rs : Builtin.Range.rangeSize 0 j c = n := by
    unfold Builtin.Range.rangeSize
    rw [if_pos hc, if_pos hj]
    exact e
  have nb : (n : Int) ≤ 2 ^ 60 := by
    rw [← e]
    have z : (j - 0 - 1) / c ≤ (j - 0 - 1) / 1 := by
      rw [Int.ediv_one]
      refine Int.le_trans (Int.ediv_le_self _ (by omega)) (Int.le_refl _)
    rw [Int.ediv_one] at z
    omega
  refine ⟨by omega, by omega, ?_, rs⟩
  unfold Builtin.Range.small
  rw [rs]
  have nc : (n : Int) * c ≤ 2 ^ 60 + 2 ^ 30 := by
    rw [Int.sub_mul, Int.one_mul] at h1
    omega
  simp only [Builtin.Range.rangeFitsLong, Bool.and_eq_true, Bool.or_eq_true, decide_eq_true_eq, beq_iff_eq, hc, if_true]
  refine ⟨?_, ?_⟩ <;> first | omega | (repeat' constructor <;> omega)
section
variable {M : Mach} {X : Cx} {N : List Str} {sc : Scope} {vb lb gb : Str → Bool} {B : Bs} {G : Sl} {O : Own} {a : Expr} {pos p : Pos}
theorem pv_intI {i : Int} (C : Cxt M X N sc vb lb gb) (ha : PEv X B G O a (.int i)) (hm : M.mg "int" = none) (hg : gb "int" = true) (sa : Plain1 a := by exact fun _ _ => star_cons rfl) : PEv X B G O (.Call (.Name "int" p) [a] [] pos) (.int i) :=
  we_callTy (R := fun xs O Φ => ∃ i, xs = [.int i] ∧ Φ (.int i) O) C call_int1 (fun B G O F σ H xs ds Φ S r h Q k => by
    obtain ⟨i, rfl, q⟩ := h
    obtain ⟨v, rfl, rv⟩ := reps1 r
    cases rv
    exact .inl ⟨i, rfl, k _ F H _ O S (Same.refl _) (.int _) q⟩) hm hg (by decide +kernel) (wa_cons (we_pv ha (wa_nil ⟨i, rfl, rfl, rfl⟩)) (sa _ _)) (he := sa _ _)
theorem pv_intB {b : Bool} (C : Cxt M X N sc vb lb gb) (ha : PEv X B G O a (.bl b)) (hm : M.mg "int" = none) (hg : gb "int" = true) (sa : Plain1 a := by exact fun _ _ => star_cons rfl) : PEv X B G O (.Call (.Name "int" p) [a] [] pos) (.int (if b then 1 else 0)) :=
  we_callTy (R := fun xs O Φ => ∃ b, xs = [.bl b] ∧ Φ (.int (if b then 1 else 0)) O) C call_int1 (fun B G O F σ H xs ds Φ S r h Q k => by
    obtain ⟨i, rfl, q⟩ := h
    obtain ⟨v, rfl, rv⟩ := reps1 r
    cases rv
    exact .inr ⟨i, rfl, k _ F H _ O S (Same.refl _) (.int _) q⟩) hm hg (by decide +kernel) (wa_cons (we_pv ha (wa_nil ⟨b, rfl, rfl, rfl⟩)) (sa _ _)) (he := sa _ _)
end
end Dl

set_option Elab.async false
set_option linter.all false
set_option maxRecDepth 100000
set_option maxHeartbeats 2000000
/-! D34: an own exception class with an __init__ of its own: made, raised, its attribute read in a suite. -/
namespace Hz
open PySem PySem.Spec PyProof.Rows L2 HotX L2H Dl
/-- the class at B takes its __init__ from ValueError -/
structure VeB (K : PySem.W.Frag) (B : Addr) : Prop where
  ga : PySem.W.specialIn K (.ref B) "__getattribute__" = some (some (.builtin "type.__getattribute__"))
  rd : PySem.W.readsIn K B (.type "type") = true
  it : PySem.W.findCls K (.ref B) (.type "type") "__init__" = some (.val (.builtin "ValueError.__init__"))
section
variable {X : Cx} {o e : Expr} {es : List Expr} {to te : TE} {ta : TA} {f x : Str} {p p' p1 p2 pos : Pos} {B : Addr}
/-- Base.__init__(self, ..), Base an own class -/
theorem pe_clsinit {pl : Sem Bool} (T : VeB X.K B) (hg : Gl X x) (hm : X.mg x = some (.ref B)) (ha : PA X (e :: es) ta) (hdb : (x == ("__debug__" : Str)) = false)
    (hc : eval (.Call (.Attribute (.Name x p1) "__init__" p2) (e :: es) [] pos) X.env = (do
      let ov ← eval (.Name x p1) X.env
      standAt p2.atName
      let (f, first) ← holding [ov] (getMethod ov "__init__" pl)
      callWith pos f first (backTo pos (starEach (e :: es) X.env)) (backToKw pos (keywordEach [] X.env))))
    (he : starEach (e :: es) X.env = (false, eval e X.env) :: starEach es X.env) (hpl : (backTo pos (starEach es X.env)).any (·.1) = false) :
    PE X (.Call (.Attribute (.Name x p1) "__init__" p2) (e :: es) [] pos) (tVeI X.K ta) := by
  refine ⟨fun pins s σ H Q I h => ?_⟩
  refine PySem.W.methodCall_KW (ld_glob I hg hm ?_ hdb) hc
  refine PySem.W.method_cls I.kIn T.ga (PySem.W.cls_value I.kIn T.rd T.it (by decide +kernel) ?_)
  show wpAny _ _ (callWith pos (Value.builtin "ValueError.__init__") [] (backTo pos (starEach (e :: es) X.env)) []) _ _ _
  refine PyProof.Rows.callWith_method1 (thn (ha.run pos pins _ σ H _ (I.tok _) h) fun us s1 ⟨vs, H1, I1, r1, a, C, ws, ev, hl, T, ea, q⟩ => ?_) he hpl
  subst ev
  cases r1 with
  | @cons _ u0 _ ur ra rw' =>
    obtain rfl : u0 = Value.ref a := ra
    have hlen : ur.length ≤ sizeLine := by
      rw [← Paired.length rw', sizeLine_eq]
      omega
    exact oinit_ok T I1 ea hlen fun s' J => ⟨.non, H1, J, rfl, q⟩
theorem mk_endN {pins : List (Addr × Obj)} {σ : L2.St} {H1 H2 : Hp} {Q : XK} {hp hp2 h2 : Heap} {g1 g2 : Array GenState} {d1 d2 : Drawn} {t1 t2 : Nat} {os1 os2 : OsState} {a C d : Addr} {fs : List (Str × V)} (T : Raises X (.ref C)) (I1 : Inv X pins σ H1 ⟨hp, g1, d1, t1, os1⟩)
    (ha : hp.objs.size ≤ a) (k : ∀ b o, hp.get? b = some o → hp2.get? b = some o) (un : Un (frs X.stack) [] (upd H1 a (exo a C none)) H2 hp2 h2) (hok : HOk X.prog X.w H2 h2) (ho : os2 = os1) (hb : AllBare g2)
    (ea : H2 a = some (exo a C (some d))) (ed : H2 d = some (exd d fs)) (hd1 : H1 d = none) (q : Q (.ref C) (some d) (upd (del H2 a) d (.xd fs))) : L2N.MkP X pins σ Q (.ref a) ⟨h2, g2, d2, t2, os2⟩ := by
  obtain ⟨t0, G, J, kG, ge, hoe, na⟩ := mk_end0 (d2 := d2) (t2 := t2) I1 ha k un hok ho hb ea ed hd1
  exact ⟨a, _, _, ⟨G, g2, d2, t2, os2⟩, _, .ref C, some d, rfl, J, kG, ge, hoe, ⟨rfl, rfl, fun vs e => by cases e; rfl⟩, rfl, rfl, na, rfl, hb, T, q⟩
theorem pmk_oexN {C fI : Addr} {k : Nat} {fd : FuncData} {ps : List Str} {sp : Sp} {ds : List Value} {dvs : List V} (T : OexC X.K C) (iC : PySem.W.findIn X.K (.ref C) "__init__" = some (some (.ref fI))) (tI : PySem.W.typeIn X.K (.ref fI) = some (.type "function"))
    (F1 : FnOk X.prog X.w X.K X.mg X.base (L2N.CX X.prog X.w) k fI fd ps sp) (hr : Room (k + 1) X.A) (hb : Binds X.K fd ps ds) (hd : Vals dvs ds) (hg : Gl X x) (hm : X.mg x = some (.ref C)) (ha : PA X (e :: es) ta)
    (hdb : (x == ("__debug__" : Str)) = false) (he : starEach (e :: es) X.env = (false, eval e X.env) :: starEach es X.env) (hpl : (backTo pos (starEach es X.env)).any (·.1) = false) :
    L2N.PMk X (.Call (.Name x p) (e :: es) [] pos) (tMkO C sp dvs ta) := by
  intro pins s σ H Q I h
  obtain ⟨nm, q, N, bs, bm, sn, sub, ab, col, dd, k0, k1, k2, k3, k5, hC, hbm⟩ := T.cls
  refine wpAny_Call_Name_kw (ld_glob I hg hm ?_ hdb)
  refine PySem.W.callWith_K (h₀ := X.base) I.ok.mod.kin T.kC (thn (ha.run pos pins s σ H _ I h) fun us s1 ⟨vs, H1, I1, r1, hz, q1⟩ => ⟨I1.kIn, ?_⟩) he hpl
  show wpAny _ _ (call (.ref C) us) _ _ _
  obtain ⟨hp, g, dr, tk, os⟩ := s1
  have hsz : hp.objs.size ≤ hp.objs.size + 1 := Nat.le_succ _
  have hn : H1 (hp.objs.size + 1) = none := I1.hok.fresh hsz
  have hq := q1 (hp.objs.size + 1) hn
  have kk : ∀ b o, hp.get? b = some o → ((hp.push (PySem.W.kdv_tup us)).push (PySem.HandSPX.excO C hp.objs.size)).get? b = some o := fun b o e => Heap.get?_push_of_some _ (Heap.get?_push_of_some _ e)
  have hget : ((hp.push (PySem.W.kdv_tup us)).push (PySem.HandSPX.excO C hp.objs.size)).get? (hp.objs.size + 1) = some (PySem.HandSPX.excO C hp.objs.size) := by heap_get
  have I2 : Inv X pins σ (upd H1 (hp.objs.size + 1) (exo (hp.objs.size + 1) C none)) ⟨(hp.push (PySem.W.kdv_tup us)).push (PySem.HandSPX.excO C hp.objs.size), g, dr, tk, os⟩ :=
    I1.laid (t' := tk) (a := hp.objs.size + 1) (o := exo (hp.objs.size + 1) C none) (h' := (hp.push (PySem.W.kdv_tup us)).push (PySem.HandSPX.excO C hp.objs.size)) kk hsz (exo_ok hget)
  have r2 : Vals (V.ref (hp.objs.size + 1) :: (vs ++ dvs)) (Value.ref (hp.objs.size + 1) :: (us ++ ds)) := .cons rfl (r1.append hd)
  have hl : (Value.ref (hp.objs.size + 1) :: us ++ ds).length = ps.length := by
    have e := r2.length
    rw [F1.len _ _ _ _ hq] at e
    exact e.symm
  have hus : us.length ≤ sizeLine := by
    rw [← Paired.length r1, sizeLine_eq]
    omega
  refine wpAny_call (PySem.HandSPX.call_own F.excBase_ValueError (fun Y => PySem.HandSPX.refsVE_contains Y bm hbm) (I1.kIn _ _ hC) (PySem.W.looks_findIn I1.kIn iC) (fun self => PySem.W.bind_fn I1.kIn self tI) hus
    (codeAny_mono (F1.run _ X.stack _ _ ⟨Value.ref (hp.objs.size + 1) :: us, []⟩ (Value.ref (hp.objs.size + 1) :: (us ++ ds)) _ _ (fun _ _ _ => False) (hr.make C us []) (I2.env0.make C us []) (hb _ (Value.ref (hp.objs.size + 1) :: us) I2.kIn hl) r2 hq) fun r s' hq' => ?_))
  cases r with
  | error er =>
    obtain ⟨_, _, _, _, _, _, _, _, _, _, _, _, z⟩ := (show L2N.CX X.prog X.w _ _ _ _ _ _ from hq')
    exact z.elim
  | ok fl =>
    cases fl with
    | ret u =>
      obtain ⟨v, H2, os2, bare2, un2, hok2, rv, ev, d, fs, ea, ed, hd1, q2⟩ := hq'
      subst ev
      obtain ⟨h2, g2, d2, t2, os'⟩ := s'
      exact ⟨rv, mk_endN (raises_own T.exC T.tyC) I1 hsz kk un2 hok2 os2 bare2 ea ed hd1 q2⟩
    | next => exact False.elim hq'
    | brk => exact False.elim hq'
    | cont => exact False.elim hq'
end
end Hz

set_option Elab.async false
set_option linter.all false
set_option maxRecDepth 100000
set_option maxHeartbeats 2000000
/-! D35: raise of such an exception over data; what a suite asks of it. -/
namespace Dl
open PySem PySem.Spec PyProof.Rows L2
/-- __init__(self, f): Base.__init__(self, ..); self.f = f -/
def spInit (K : PySem.W.Frag) (f : Str) : Sp := fun vs H Q _ => ∃ (a C : Addr) (y : V), vs = [.ref a, y] ∧ OexC K C ∧ PySem.W.findIn K (.ref C) f = some none ∧ H a = some (exo a C none) ∧ ∀ dx, H dx = none → dx ≠ a → Q .non (upd (upd H dx (exd dx [(f, y)])) a (exo a C (some dx)))
def GExcO (M : Mach) (x f : Str) (k : Nat) : Prop := ∃ (C fI : Addr) (fd : FuncData), M.mg x = some (.ref C) ∧ OexC M.K C ∧ PySem.W.findIn M.K (.ref C) "__init__" = some (some (.ref fI)) ∧ PySem.W.typeIn M.K (.ref fI) = some (.type "function") ∧ PySem.W.findIn M.K (.ref C) f = some none ∧
  FnOk M.P M.w M.K M.mg M.base (L2N.CX M.P M.w) k fI fd ["self", f] (spInit M.K f) ∧ Binds M.K fd ["self", f] []
theorem GExcO.mono {M : Mach} {x f : Str} {j k : Nat} (h : GExcO M x f j) (l : j ≤ k) : GExcO M x f k := by
  obtain ⟨C, fI, fd, h1, h2, h3, h4, h5, h6, h7⟩ := h
  exact ⟨C, fI, fd, h1, h2, h3, h4, h5, h6.mono l, h7⟩
section
variable {M : Mach} {X : Cx} {N : List Str} {sc : Scope} {vb lb gb : Str → Bool} {B : Bs} {G : Sl} {O : Own} {e a b elt : Expr} {es : List Expr} {pos p p2 p3 : Pos} {d d1 d2 : D} {ds : List D} {E : EndsD} {Ψ : Xk} {x f : Str} {k : Nat} {i : Int}
theorem ws_raiseO (C : Cxt M X N sc vb lb gb) (tk : L2N.Takes X (wD X.K B Ψ)) (hr : Room (k + 1) X.A) (hx : GExcO M x f k) (hg : gb x = true) (ha : PEv X B G O a (.int i)) (h : ∀ c, M.mg x = some (.ref c) → Ψ ⟨.ref c, some [(f, .int i)]⟩ G O)
    (sa : Plain1 a := by exact fun _ _ => star_cons rfl) : WS X B G O (.Raise (some (.Call (.Name x p) [a] [] pos)) none p3) E := fun F σ H S D' kk => by
  obtain ⟨Cc, fI, fd, hm, T, iC, tI, hno, F1, hb⟩ := hx
  have hM := C.hM
  subst hM
  refine semS (L2N.ps_raise C.calm tk (Hz.pmk_oexN (dvs := []) (ds := []) T iC tI F1 hr hb .nil (C.gl x hg).1 hm (pa_cons pe_sem pa_nil (sa _ _)) (C.gl x hg).2 (sa _ _) rfl)) ?_
  refine ha F σ H S _ fun v F1 H1 d1 O1 S1 e1 r1 p1 => ?_
  obtain ⟨rfl, rfl⟩ := p1
  cases r1
  refine ⟨Nat.le_of_ble_eq_true rfl, fun a0 ha0 => ⟨a0, Cc, .int i, rfl, T, hno, upd_same, fun dx hd ne => ⟨rfl, dx, [(f, .int i)], upd_same, ?_, ?_, ?_⟩⟩⟩
  · rw [upd_ne ne]
    exact upd_same
  · rw [upd_ne ne] at hd
    exact hd
  · rw [upd_ne ne] at hd
    have eH : upd (del (upd (upd (upd H1 a0 (exo a0 Cc none)) dx (exd dx [(f, V.int i)])) a0 (exo a0 Cc (some dx))) a0) dx (.xd [(f, .int i)]) = upd H1 dx (.xd [(f, .int i)]) := by
      funext b
      by_cases hb : b = dx
      · subst hb
        rw [upd_same, upd_same]
      · rw [upd_ne hb, upd_ne hb]
        by_cases hb2 : b = a0
        · subst hb2
          rw [del_same, ha0]
        · rw [del_ne hb2, upd_ne hb2, upd_ne hb, upd_ne hb2]
    show wD _ _ _ _ _ _ (upd (del (upd (upd (upd H1 a0 (exo a0 Cc none)) dx (exd dx [(f, V.int i)])) a0 (exo a0 Cc (some dx))) a0) dx (.xd [(f, .int i)]))
    rw [eH]
    exact ⟨⟨.ref Cc, some [(f, .int i)]⟩, G, O1, _, S1.alloc hd (.xd [(f, .int i)]), ⟨rfl, dx, [(f, .int i)], rfl, upd_same, .cons ⟨rfl, .int i⟩ .nil⟩, h Cc hm⟩
end
end Dl
namespace Hz
open PySem PySem.Spec PyProof.Rows L2 HotX L2H Dl
/-! ### isinstance of an exception that has a dict -/
/-- its dict, if it has one, is as its attributes are told -/
def DictAt (H : Hp) : Option Addr → Prop
  | none => True
  | some dd => ∃ fs, H dd = some (.xd fs)
theorem DictAt.ext {H H' : Hp} (e : Ext H H') : ∀ {d : Option Addr}, DictAt H d → DictAt H' d
  | none, _ => True.intro
  | some _, ⟨fs, h⟩ => ⟨fs, e _ _ h⟩
section
open PySem.W PySem.Calls
variable {prog : Program} {w : World} {A : Around} {E : Value → Shared → Prop} {s : Shared} {K : Frag} {x D : Addr} {ox : Obj} {od : Obj}
theorem kin_classD {Q : Option Value → Shared → Prop} (hga : findIn K (.ref D) "__getattribute__" = some (some (.builtin "BaseException.__getattribute__"))) (hgt : findIn K (.ref D) "__getattr__" = some none) (hsub : subIn K (.ref D) (.type "BaseException") = some true)
    (hdct : hasDictIn K D = true) (ha : findIn K (.ref D) "__class__" = some (some (.builtin "object.__class__")))
    (hn : specialIn K (.builtin "object.__class__") "__get__" = some (some (.builtin "getset_descriptor.__get__"))) (htk : takesIn K (.builtin "object.__class__") = some true) (hm : mroIn K D (.type "object") = some true)
    (X : K.In s.heap) (I : InstAt s.heap x ox D (some od)) (h : Q (some (.ref D)) { s with toks := s.toks + 1 }) : wpAny (model prog w) A (getAttr? (.ref x) "__class__") Q E s := by
  have hf : findObj K D (some od) "__class__" = some (.bind (.builtin "getset_descriptor.__get__") (.builtin "object.__class__")) := findObj_data (by obtain ⟨cd, hc, _⟩ := any_some hdct; rw [hc]; rfl) ha hn htk
  obtain ⟨hp, g, d, t, os⟩ := s
  have L0 := I.type (M := model prog w)
  have L1 := looks_findIn (M := model prog w) X hga
  have L2 := looks_findIn (M := model prog w) X hgt
  have L3 := looks_find (M := model prog w) X I hf
  have sub : Looks (model prog w) hp (isInstance (.ref x) (.type "BaseException")) true := L0.andThen (looks_subIn X hsub)
  have hx0 : (false && onTheHeap (Value.builtin "BaseException.__getattribute__")) = false := rfl
  have hx2 : (Value.builtin "BaseException.__getattribute__" == Value.builtin "object.__getattribute__") = false := by decide +kernel
  have hx1 : (onTheHeap (Value.ref D) && Value.builtin "BaseException.__getattribute__" == Value.builtin "object.__getattribute__") = false := by rw [hx2]; rfl
  unfold getAttr? getAttrBy? getAttrBy
  refine wpAny_bind (wpAny_mkText (wpAny_bind (wpAny_attempt (wpAny_holding (wpAny_bind (L0.at (wpAny_bind (L1.at ?_))))))))
  show wpAny _ _ (if (onTheHeap (Value.ref D) && Value.builtin "BaseException.__getattribute__" == Value.builtin "object.__getattribute__") = true then _ else _) _ _ _
  rw [hx1, if_neg Bool.false_ne_true]
  unfold getAttrByItsOwn hookBefore
  refine wpAny_bind ?_
  rw [if_pos (show onTheHeap (Value.ref D) = true from rfl)]
  refine L2.at ?_
  refine wpAny_bind (wpAny_attempt (wpAny_holding ?_))
  unfold callGetattribute
  rw [hx0, if_neg Bool.false_ne_true]
  unfold boundAndCalled
  rw [PySem.F.excAttr_ValueError.ga.bind (.ref x)]
  refine wpAny_bind (wpAny_pure ?_)
  show wpAny _ _ (call (.builtin "BaseException.__getattribute__") [.ref x, .str "__class__" t]) _ _ _
  refine wpAny_call (codeAny_call_builtin PySem.F.excAttr_ValueError.ga.plain PySem.F.entry_bexc_ga ?_)
  refine @check_slot (model prog w) _ _ ⟨hp, g, d, t + 1, os⟩ "BaseException.__getattribute__" "BaseException" "__getattribute__" (.ref x) [.str "__class__" t] [] _ (by decide +kernel) (by decide +kernel) sub (PySem.F.args_bexc_ga (.ref x) (.str "__class__" t)) ?_
  unfold Builtin.«object.__getattribute__»
  refine wpAny_bind (wpAny_of_eq (a := ((Value.ref x : Value), [Value.str "__class__" t])) (by first | rfl | (simp only [slotArgs]; rfl)) ?_)
  refine wpAny_bind (wpAny_pure (wpAny_bind (L0.at (wpAny_bind (L3.at ?_)))))
  show wpAny _ _ (holding [Value.builtin "object.__class__"] (call (.builtin "getset_descriptor.__get__") [.builtin "object.__class__", .ref x, .ref D]) >>= ret) _ _ _
  refine wpAny_bind (wpAny_holding (wpAny_call (class_get (s := ⟨hp, g, d, t + 1, os⟩) (ox := ox) (od := some od) X I hm ?_)))
  refine wpAny_pure ?_
  show wpAny _ _ (handedOut (.ref D)) _ _ _
  rw [handedOut_of (v := .ref D) rfl]
  first
    | exact wpAny_pure (wpAny_pure h)
    | exact wpAny_pure h
    | exact wpAny_pure (wpAny_bind (wpAny_pure (wpAny_pure h)))
theorem kitx_excD (hga : findIn K (.ref D) "__getattribute__" = some (some (.builtin "BaseException.__getattribute__"))) (hgt : findIn K (.ref D) "__getattr__" = some none) (hsub : subIn K (.ref D) (.type "BaseException") = some true) (hdct : hasDictIn K D = true) (ha : findIn K (.ref D) "__class__" = some (some (.builtin "object.__class__")))
    (hn : specialIn K (.builtin "object.__class__") "__get__" = some (some (.builtin "getset_descriptor.__get__"))) (htk : takesIn K (.builtin "object.__class__") = some true) (hm : mroIn K D (.type "object") = some true) :
    KitX K (.ref x) (.ref D) (fun h => InstAt h x ox D (some od)) where
  ty := fun _ _ _ I => I.type
  it := fun _ _ X _ => by
    obtain ⟨cdD, hcD, _⟩ := any_some hdct
    unfold clsIn at hcD
    split at hcD
    · rename_i c' d' cd' sl' ho
      intro A' Q' E' s' k q
      unfold isType loadHead
      exact wpAny_bind (wpAny_loadPart (k _ _ (X _ _ ho)) (wpAny_pure q))
    · cases hcD
  ne := fun h tp dd its n sl X htp => by
    obtain ⟨cdD, hcD, _⟩ := any_some hdct
    refine Bool.eq_false_iff.mpr fun q => ?_
    have e : D = tp := Value.ref.inj (beq_iff_eq.mp q)
    subst e
    unfold clsIn at hcD
    split at hcD
    · rename_i c' d' cd' sl' ho
      have z := (X _ _ ho).symm.trans htp
      cases z
    · cases hcD
  ca := fun X I k => kin_classD hga hgt hsub hdct ha hn htk hm X I k
end
/-- isinstance(e, c), e the exception that is handled, of the class D -/
def rIsD (K : PySem.W.Frag) (D a : Addr) (dd : Option Addr) : List V → Hp → VK → Prop := fun xs H Q => DictAt H dd ∧ ∃ (c : V) (cv : Value) (b : Bool), xs = [.ref a, c] ∧ (∀ u, RelV c u → u = cv) ∧ PySem.W.kitOne K (.ref D) cv = some b ∧ Q (.bl b) H
theorem call_isD {X : Cx} {D : Addr} {p : Addr × Obj} (hp : p ∈ X.pn) (C : ExcC X.K D) (hc : p.2.cls = .ref D) (hf : ∃ vs, p.2.data = .fields vs) : CallR X (.builtin "isinstance") (rIsD X.K D p.1 p.2.dict) := by
  rintro pins s σ H xs us Q I r ⟨hd, c, cv, b, rfl, hcv, e, q⟩
  obtain ⟨u, rfl, rt⟩ : ∃ u, us = [.ref p.1, u] ∧ RelV c u := by
    cases r with
    | cons rx rr => cases rr with
      | cons rt rr => cases rr; cases rx; exact ⟨_, rfl, rt⟩
  obtain rfl := hcv _ rt
  have hg := (I.pin p (List.mem_append_left _ hp)).1
  obtain ⟨a, ⟨oc, od, oda, osl⟩⟩ := p
  obtain ⟨vs, hv⟩ := hf
  dsimp only at hc hd hv hg
  subst hc hv
  cases od with
  | none =>
    have J : PySem.W.InstAt s.heap a ⟨.ref D, none, .fields vs, osl⟩ D none := ⟨hg, rfl, rfl, trivial⟩
    exact PySem.W.kia_one (PySem.W.handS_kitx_exc C.hg C.hk C.hs C.hd C.ha C.hn C.ht C.hm) I.kIn J e (fun z => nomatch z) fun tk => ⟨.bl b, H, I.kept (t' := tk) fun _ _ z => z, rfl, q⟩
  | some dd =>
    obtain ⟨fs, hd⟩ := hd
    have hx : ObjOk X.prog X.w H s.heap dd (.xd fs) := I.hok dd _ hd
    obtain ⟨mA, hns, hr⟩ := hx
    obtain ⟨od, ho, hl⟩ := lookIn_ns hns
    have J : PySem.W.InstAt s.heap a ⟨.ref D, some dd, .fields vs, osl⟩ D (some od) := ⟨hg, rfl, rfl, ho⟩
    exact PySem.W.kia_one (kitx_excD C.hg C.hk C.hs C.hd C.ha C.hn C.ht C.hm) I.kIn J e (fun z => nomatch z) fun tk => ⟨.bl b, H, I.kept (t' := tk) fun _ _ z => z, rfl, q⟩
section
variable {X : Cx} {σ : L2.St} {H : Hp} {Q : VK} {D : Ends} {x : Str} {i : Nat} {e : Expr} {es : List Expr} {rest : List Stmt} {pos pos' : Pos}
/-- isinstance(e, C), C an own class -/
theorem h_isPD {Dc c : Addr} {b : Bool} {p : Addr × Obj} {xe xc : Str} {p1 p2 p3 : Pos} (hp : p ∈ X.pn) (C : ExcC X.K Dc) (hc : p.2.cls = .ref Dc) (hd : DictAt H p.2.dict) (hf : ∃ vs, p.2.data = .fields vs) (gi : Gl X "isinstance") (mi : X.mg "isinstance" = none)
    (he : ExpIs X σ H (.Name xe p2) (.ref p.1)) (gc : Gl X xc) (mc : X.mg xc = some (.ref c)) (dc : (xc == ("__debug__" : Str)) = false) (k : PySem.W.kitOne X.K (.ref Dc) (.ref c) = some b)
    (hst : starEach [.Name xe p2, .Name xc p3] X.env = (false, eval (.Name xe p2) X.env) :: starEach [.Name xc p3] X.env) (hpl : (backTo pos (starEach [.Name xc p3] X.env)).any (·.1) = false) : ExpIs X σ H (.Call (.Name "isinstance" p1) [.Name xe p2, .Name xc p3] [] pos) (.bl b) := fun Q q =>
  sem (pe_callB (call_isD hp C hc hf) gi mi (by rfl) (pa_cons pe_sem (pa_cons (pe_glob gc mc (v := .ref c) rfl dc) pa_nil)) (by decide) (by decide) hst hpl) (he _ ⟨hd, .ref c, .ref c, b, rfl, fun _ r => r, k, q⟩)
/-- isinstance(e, T), T a built-in class -/
theorem h_isBD {Dc : Addr} {b : Bool} {p : Addr × Obj} {xe xc : Str} {T : String} {p1 p2 p3 : Pos} (hp : p ∈ X.pn) (C : ExcC X.K Dc) (hc : p.2.cls = .ref Dc) (hd : DictAt H p.2.dict) (hf : ∃ vs, p.2.data = .fields vs) (gi : Gl X "isinstance") (mi : X.mg "isinstance" = none)
    (he : ExpIs X σ H (.Name xe p2) (.ref p.1)) (gc : Gl X xc) (mc : X.mg xc = none) (bc : bootBuiltins xc = some (.type T)) (nc : xc ≠ "__name__") (dc : (xc == ("__debug__" : Str)) = false) (k : PySem.W.kitOne X.K (.ref Dc) (.type T) = some b)
    (hst : starEach [.Name xe p2, .Name xc p3] X.env = (false, eval (.Name xe p2) X.env) :: starEach [.Name xc p3] X.env) (hpl : (backTo pos (starEach [.Name xc p3] X.env)).any (·.1) = false) : ExpIs X σ H (.Call (.Name "isinstance" p1) [.Name xe p2, .Name xc p3] [] pos) (.bl b) := fun Q q =>
  sem (pe_callB (call_isD hp C hc hf) gi mi (by rfl) (pa_cons pe_sem (pa_cons (pe_bltn gc mc bc (v := .ty T) rfl nc dc) pa_nil)) (by decide) (by decide) hst hpl) (he _ ⟨hd, .ty T, .type T, b, rfl, fun _ r => r, k, q⟩)
end
end Hz

set_option Elab.async false
set_option linter.all false
set_option maxRecDepth 100000
set_option maxHeartbeats 2000000
/-! D36: dict(pairs of ints), list(d). -/
namespace Dl
open PySem PySem.Spec PyProof.Rows L2
theorem reps_prs {K : PySem.W.Frag} {F : Hp} : ∀ {rows : List (Int × Int)} {vs : List V}, Reps K F vs (rows.map dPr) → ∃ ps : List Addr, vs = ps.map V.ref ∧ Paired (fun p (kv : Key × V) => SqT K F p [kV kv.1, kv.2]) ps (rows.map entK)
  | [], _, .nil => ⟨[], rfl, .nil⟩
  | (i, j) :: rows, _, .cons r rs => by
    obtain ⟨ps, rfl, h⟩ := reps_prs rs
    cases r with
    | @tup a vs ds hq hr =>
      obtain ⟨v, w, rfl, rv, rw'⟩ := reps2 hr
      cases rv
      cases rw'
      exact ⟨a :: ps, rfl, .cons hq h⟩
theorem putI_new {tb : List (Int × Int)} {r : Int × Int} (h : ∀ x ∈ tb, x.1 ≠ r.1) : putI tb r.1 r.2 = tb ++ [r] := by
  unfold putI
  rw [if_neg]
  intro z
  obtain ⟨x, hx, e⟩ := List.any_eq_true.mp z
  exact h x hx (of_decide_eq_true e)
theorem foldl_putI : ∀ {rows tb : List (Int × Int)}, (tb ++ rows).Pairwise (fun a b => a.1 ≠ b.1) → rows.foldl (fun t r => putI t r.1 r.2) tb = tb ++ rows
  | [], tb, _ => by rw [List.foldl_nil, List.append_nil]
  | r :: rows, tb, h => by
    have e : tb ++ r :: rows = (tb ++ [r]) ++ rows := by rw [List.append_assoc]; rfl
    rw [List.foldl_cons, putI_new fun x hx => (List.pairwise_append.mp h).2.2 x hx r List.mem_cons_self, foldl_putI (by rw [← e]; exact h), e]
theorem mergeK_ints : ∀ (rows tb : List (Int × Int)), mergeK (tb.map entK) (rows.map entK) = (rows.foldl (fun t r => putI t r.1 r.2) tb).map entK
  | [], _ => rfl
  | r :: rows, tb => by
    show mergeK (putK (tb.map entK) (Sum.inl r.1 : Key) (V.int r.2)) (rows.map entK) = _
    rw [putK_putI, mergeK_ints rows]
    rfl
theorem paired_mono {α β : Type} {R R' : α → β → Prop} (h : ∀ a b, R a b → R' a b) : ∀ {as : List α} {bs : List β}, Paired R as bs → Paired R' as bs
  | _, _, .nil => .nil
  | _, _, .cons r t => .cons (h _ _ r) (paired_mono h t)
section
variable {M : Mach} {X : Cx} {N : List Str} {sc : Scope} {vb lb gb : Str → Bool} {B : Bs} {G : Sl} {O : Own} {e o : Expr} {pos p : Pos}
theorem we_dictI {rows : List (Int × Int)} {Φ : D → Own → Prop} (C : Cxt M X N sc vb lb gb) (he : PEv X B G O e (.lst (rows.map dPr))) (nd : rows.Pairwise fun a b => a.1 ≠ b.1) (hm : M.mg "dict" = none) (hg : gb "dict" = true) (h : ∀ q, Φ (.obj q) ((q, .dic (rows.map entD)) :: O))
    (sa : Plain1 e := by exact fun _ _ => star_cons rfl) : WE X B G O (.Call (.Name "dict" p) [e] [] pos) Φ :=
  we_callTy (R := fun xs O Φ => ∃ rows : List (Int × Int), xs = [.lst (rows.map dPr)] ∧ rows.Pairwise (fun a b => a.1 ≠ b.1) ∧ ∀ q, Φ (.obj q) ((q, .dic (rows.map entD)) :: O)) C (call_dictP C.calm) (fun B G O F σ H xs ds Φ S r h Q k => by
    obtain ⟨rows, rfl, nd, q⟩ := h
    obtain ⟨v, rfl, rv⟩ := reps1 r
    cases rv with
    | lst hq rs =>
      obtain ⟨ps, rfl, hp⟩ := reps_prs rs
      refine ⟨_, ps, rows.map entK, rfl, sqL_mono S.ex hq, paired_mono (fun _ _ z => sqT_mono S.ex z) hp, fun a ha => ?_⟩
      have e : mergeK [] (rows.map entK) = rows.map entK := by
        have z := mergeK_ints rows []
        rw [foldl_putI (by rw [List.nil_append]; exact nd), List.nil_append] at z
        exact z
      rw [e]
      exact k _ F _ _ _ (S.allocOwn ha (ov := .dic (rows.map entD)) ⟨rows.map entK, upd_same, ints_preps _⟩) (Same.refl _) (.obj a) (q a)) hm hg (by decide +kernel) (wa_cons (we_pv he (wa_nil ⟨rows, rfl, nd, h⟩)) (sa _ _)) (he := sa _ _)
/-- list(d) -/
theorem pn_listD {q : Addr} {tb : List (Int × Int)} (C : Cxt M X N sc vb lb gb) (ho : PEv X B G O o (.obj q)) (ht : (q, OV.dic (tb.map entD)) ∈ O) (hm : M.mg "list" = none) (hg : gb "list" = true) (sa : Plain1 o := by exact fun _ _ => star_cons rfl) : PNv X B G O (.Call (.Name "list" p) [o] [] pos) ((tb.map (·.1)).map D.int) :=
  wn_callTy (R := fun xs O Φ => ∃ (q : Addr) (tb : List (Int × Int)), xs = [.obj q] ∧ (q, OV.dic (tb.map entD)) ∈ O ∧ Φ ((tb.map (·.1)).map D.int) O) C (call_list_dK C.calm) (fun B G O F σ H xs ds Φ S r h Q k => by
    obtain ⟨q, tb, rfl, hq, p⟩ := h
    obtain ⟨v, rfl, rv⟩ := reps1 r
    cases rv
    refine ⟨q, tb.map entK, rfl, own_dic S hq, fun l hl => ?_⟩
    have e : (tb.map entK).map (fun kv => kV kv.1) = (tb.map (·.1)).map V.int := by rw [List.map_map, List.map_map]; rfl
    rw [e]
    exact k l ((tb.map (·.1)).map D.int) F _ O (S.allocOwn hl (ov := .lst ((tb.map (·.1)).map D.int)) ⟨_, upd_same, ints_reps _⟩) (Same.refl _) p) hm hg (by decide +kernel) (wa_cons (we_pv ho (wa_nil ⟨q, tb, rfl, ht, rfl, rfl⟩)) (sa _ _)) (he := sa _ _)
/-- str(i) -/
theorem pv_strI {i : Int} (C : Cxt M X N sc vb lb gb) (he : PEv X B G O e (.int i)) (hz : i.natAbs.log2 < 1920) (hm : M.mg "str" = none) (hg : gb "str" = true) (sa : Plain1 e := by exact fun _ _ => star_cons rfl) : PEv X B G O (.Call (.Name "str" p) [e] [] pos) (.str (toString i)) :=
  we_callTy (R := fun xs O Φ => ∃ i : Int, xs = [.int i] ∧ i.natAbs.log2 < 1920 ∧ Φ (.str (toString i)) O) C call_str_int (fun B G O F σ H xs ds Φ S r h Q k => by
    obtain ⟨i, rfl, hz, q⟩ := h
    obtain ⟨v, rfl, rv⟩ := reps1 r
    cases rv
    exact ⟨i, rfl, hz, k _ F H _ O S (Same.refl _) (.str _) q⟩) hm hg (by decide +kernel) (wa_cons (we_pv he (wa_nil ⟨i, rfl, hz, rfl, rfl⟩)) (sa _ _)) (he := sa _ _)
end
end Dl

set_option Elab.async false
set_option linter.all false
set_option maxRecDepth 100000
set_option maxHeartbeats 2000000
/-! D37: a dict of ints that is walked (locked); d[k]; sorted(d). -/
namespace Dl
open PySem PySem.Spec PyProof.Rows L2
section
variable {M : Mach} {X : Cx} {N : List Str} {sc : Scope} {vb lb gb : Str → Bool} {B : Bs} {G : Sl} {O : Own} {a e f o i value : Expr} {pos pos' p p2 apos cpos : Pos} {d1 : D} {E : EndsD} {st : Stmt}
/-- what is wanted behind a statement that runs while the dict at q is locked -/
def lockE (E : EndsD) (q : Addr) (od : Obj) (tb : List (Int × Int)) : EndsD :=
  ⟨fun G' O' => (q, OV.frd od tb) ∈ O' ∧ ∃ O'', OSet O' q (.dic (tb.map entD)) O'' ∧ E.nx G' O'', fun d O' => (q, OV.frd od tb) ∈ O' ∧ ∃ O'', OSet O' q (.dic (tb.map entD)) O'' ∧ E.rt d O'',
   fun G' O' => (q, OV.frd od tb) ∈ O' ∧ ∃ O'', OSet O' q (.dic (tb.map entD)) O'' ∧ E.bk G' O'', fun G' O' => (q, OV.frd od tb) ∈ O' ∧ ∃ O'', OSet O' q (.dic (tb.map entD)) O'' ∧ E.ct G' O''⟩
theorem ws_lock {q : Addr} {tb : List (Int × Int)} {O1 : Obj → Own} (hm : (q, OV.dic (tb.map entD)) ∈ O) (hs : ∀ od, OSet O q (.frd od tb) (O1 od)) (h : ∀ od, WS X B G (O1 od) st (lockE E q od tb)) : WS X B G O st E := fun F σ H S D' k => by
  have hd := own_dic S hm
  refine semS (ps_lock ps_sem) ⟨q, .dK (tb.map entK), hd, True.intro, fun od => ?_⟩
  have un : ∀ {G' : Sl} {O' O'' : Own} {F' : Hp} {σ' : L2.St} {H' : Hp}, Sat X.K B G' O' F' σ' H' → (q, OV.frd od tb) ∈ O' → OSet O' q (.dic (tb.map entD)) O'' → H' q = some (.frz od (.dK (tb.map entK))) ∧ Sat X.K B G' O'' F' σ' (upd H' q (.dK (tb.map entK))) := fun S' hm' hs' => ⟨(S'.own _ hm').2, S'.mut hs' ⟨_, upd_same, ints_preps _⟩⟩
  refine h od F σ _ (S.mut (hs od) (upd_same : upd H q (.frz od (.dK (tb.map entK))) q = _)) _ ⟨fun G' O' F' σ' H' S' e' ⟨h1, O'', h2, p⟩ => ⟨(un S' h1 h2).1, k.nx G' O'' F' σ' _ (un S' h1 h2).2 e' p⟩, fun G' O' F' σ' H' v d S' e' r' ⟨h1, O'', h2, p⟩ => ⟨(un S' h1 h2).1, k.rt G' O'' F' σ' _ v d (un S' h1 h2).2 e' r' p⟩,
    fun G' O' F' σ' H' S' e' ⟨h1, O'', h2, p⟩ => ⟨(un S' h1 h2).1, k.bk G' O'' F' σ' _ (un S' h1 h2).2 e' p⟩, fun G' O' F' σ' H' S' e' ⟨h1, O'', h2, p⟩ => ⟨(un S' h1 h2).1, k.ct G' O'' F' σ' _ (un S' h1 h2).2 e' p⟩⟩
theorem jok_keys {K : PySem.W.Frag} {F : Hp} {q : Addr} {od : Obj} {tb : List (Int × Int)} : JOk K (Itk q od (tb.map entK)) F [(q, OV.frd od tb)] ((tb.map (·.1)).map D.int) where
  go := fun i F2 H2 e1 e2 hl hi => ⟨hl _ List.mem_cons_self, by simpa using hi⟩
  stop := fun F2 H2 e1 e2 hl => ⟨hl _ List.mem_cons_self, by simp⟩
  yld := fun i F2 H2 x H3 e1 e2 hl hi y => by
    obtain ⟨rfl, k, v, hk, rfl⟩ := y
    rw [List.getElem?_map] at hk
    cases ht : tb[i]? with
    | none => rw [ht] at hk; cases hk
    | some r =>
      rw [ht] at hk
      cases hk
      exact ⟨.int r.1, by rw [List.getElem?_map, List.getElem?_map, ht]; rfl, .inl ⟨rfl, .int _⟩⟩
/-- for k in d -/
theorem wiv_keys {tg : Expr} {q : Addr} {od : Obj} {tb : List (Int × Int)} (h : PEv X B G O a (.obj q)) (hq : (q, OV.frd od tb) ∈ O) : WIv X B G O tg a ((tb.map (·.1)).map D.int) [(q, .frd od tb)] := fun F σ H S R k =>
  semI (pi_keys pe_sem) (h F σ H S _ fun v F1 H1 d O1 S1 e1 r1 p1 => by
    obtain ⟨rfl, rfl⟩ := p1
    cases r1
    exact ⟨q, od, rfl, .inl ⟨_, (S1.own _ hq).2, k _ F1 H1 _ _ O1 S1 e1 jok_keys ⟨rfl, rfl, rfl⟩⟩⟩)
/-- a dict of ints, walked or not -/
inductive DicO (O : Own) (q : Addr) (tb : List (Int × Int)) : Prop
  | own : (q, OV.dic (tb.map entD)) ∈ O → DicO O q tb
  | frd {od : Obj} : (q, OV.frd od tb) ∈ O → DicO O q tb
theorem dico_rd {F H : Hp} {σ : L2.St} {q : Addr} {tb : List (Int × Int)} (S : Sat X.K B G O F σ H) (h : DicO O q tb) : Rd H q (.dK (tb.map entK)) := by
  cases h with
  | own h => exact .inl (own_dic S h)
  | frd h => exact .inr ⟨_, (S.own _ h).2⟩
/-- d[k] -/
theorem pv_dsubI {q : Addr} {tb : List (Int × Int)} {k z : Int} (C : Cxt M X N sc vb lb gb) (ho : PEv X B G O o (.obj q)) (he : PEv X B G O e (.int k)) (hm : DicO O q tb) (hz : getI tb k = some z) (hs : NoSl e := by intro _ _; rfl) : PEv X B G O (.Subscript o e pos) (.int z) := fun F σ H S Q kk =>
  sem (pe_dget (Nat.lt_of_le_of_lt (by omega) C.un) pe_sem pe_sem hs) (ho F σ H S _ fun v F1 H1 d O1 S1 e1 r1 p1 => by
    obtain ⟨rfl, rfl⟩ := p1
    cases r1
    refine he F1 σ H1 S1 _ fun v F2 H2 d O2 S2 e2 r2 p2 => ?_
    obtain ⟨rfl, rfl⟩ := p2
    cases r2
    refine ⟨q, .int z, rfl, .inl ⟨_, Sum.inl k, dico_rd S2 hm, rfl, ?_⟩, kk _ F2 H2 _ O2 S2 (e1.trans e2) (.int z) ⟨rfl, rfl⟩⟩
    rw [valV_getI, hz]
    rfl)
/-- sorted(d) -/
theorem wn_sortedD {q : Addr} {tb : List (Int × Int)} {Φ : List D → Own → Prop} (C : Cxt M X N sc vb lb gb) (ho : PEv X B G O o (.obj q)) (ht : DicO O q tb) (h64 : tb.length < 64) (hm : M.mg "sorted" = none) (hg : gb "sorted" = true)
    (h : ∀ ys : List Int, ys.Perm (tb.map (·.1)) → ys.Pairwise (· ≤ ·) → Φ (ys.map D.int) O) (sa : Plain1 o := by exact fun _ _ => star_cons rfl) : WN X B G O (.Call (.Name "sorted" p) [o] [] pos) Φ :=
  wn_callB (R := fun xs O Φ => ∃ (q : Addr) (tb : List (Int × Int)), xs = [.obj q] ∧ DicO O q tb ∧ tb.length < 64 ∧ ∀ ys : List Int, ys.Perm (tb.map (·.1)) → ys.Pairwise (· ≤ ·) → Φ (ys.map D.int) O) C (call_sortedDI C.calm) (fun B G O F σ H xs ds Φ S r h Q k => by
    obtain ⟨q, tb, rfl, hq, hl, p⟩ := h
    obtain ⟨v, rfl, rv⟩ := reps1 r
    cases rv
    refine ⟨q, tb.map entK, tb.map (·.1), rfl, dico_rd S hq, by rw [List.map_map, List.map_map]; rfl, by rw [List.length_map]; exact hl, fun ys l h1 h2 hl => ?_⟩
    exact k l (ys.map D.int) F _ O (S.allocOwn hl (ov := .lst (ys.map D.int)) ⟨_, upd_same, ints_reps _⟩) (Same.refl _) (p ys h1 h2)) hm hg (by decide +kernel) (wa_cons (we_pv ho (wa_nil ⟨q, tb, rfl, ht, h64, h⟩)) (sa _ _)) (he := sa _ _)
end
end Dl

set_option Elab.async false
set_option linter.all false
set_option maxRecDepth 100000
set_option maxHeartbeats 2000000
/-! D38: t[::-1] of a tuple; True + 1, True - 1. -/
namespace L2
open PySem PySem.Spec PyProof.Rows
section
variable {prog : Program} {w : World} {A : Around} {E : Value → Shared → Prop} {s : Shared}
theorem adjust_rev (n : Nat) : Builtin.Slice.sliceAdjust none none (-1) (n : Int) = ((n : Int) - 1, -1) := by
  unfold Builtin.Slice.sliceAdjust
  simp
theorem places_rev (n : Nat) : Builtin.Slice.slicePlaces ((n : Int) - 1) (-1) (-1) = n := by
  unfold Builtin.Slice.slicePlaces
  have h1 : ¬ ((-1 : Int) > 0) := by omega
  rw [if_neg h1]
  by_cases h : (n : Int) - 1 > -1
  · rw [if_pos h]
    have e : ((n : Int) - 1 - -1 - 1) / (- -1) = (n : Int) - 1 := by
      rw [show (- -1 : Int) = 1 by omega, Int.ediv_one]
      omega
    rw [e]
    omega
  · rw [if_neg h]
    have : (n : Int) = 0 := by omega
    show (0 : Int).toNat = n
    omega
theorem pick_rev (xs : Array Value) : ((List.range xs.size).filterMap fun (m : Nat) => xs[((xs.size : Int) - 1 + (m : Int) * -1).toNat]?) = xs.toList.reverse := by
  refine List.ext_getElem? fun j => ?_
  have e0 : ∀ n, n ≤ xs.size → ((List.range n).filterMap fun (m : Nat) => xs[((xs.size : Int) - 1 + (m : Int) * -1).toNat]?) = (List.range n).map fun m => xs.getD (xs.size - 1 - m) .none := by
    intro n
    induction n with
    | zero => exact fun _ => rfl
    | succ n ih =>
      intro hn
      rw [List.range_succ, List.filterMap_append, List.map_append, ih (by omega)]
      congr 1
      have e1 : ((xs.size : Int) - 1 + (n : Int) * -1).toNat = xs.size - 1 - n := by omega
      have e2 : xs[((xs.size : Int) - 1 + (n : Int) * -1).toNat]? = some (xs.getD (xs.size - 1 - n) .none) := by
        rw [e1, Array.getElem?_eq_getElem (by omega)]
        simp [Array.getD, show xs.size - 1 - n < xs.size by omega]
      show List.filterMap (fun (m : Nat) => xs[((xs.size : Int) - 1 + (m : Int) * -1).toNat]?) [n] = [xs.getD (xs.size - 1 - n) .none]
      rw [List.filterMap_cons]
      rw [e2]
      rfl
  have e := e0 xs.size (Nat.le_refl _)
  rw [e, List.getElem?_map]
  by_cases hj : j < xs.size
  · rw [List.getElem?_range hj, List.getElem?_reverse (by rw [Array.length_toList]; exact hj), Array.length_toList, Array.getElem?_toList, Array.getElem?_eq_getElem (by omega)]
    simp [Array.getD, show xs.size - 1 - j < xs.size by omega]
  · rw [List.getElem?_eq_none (by rw [List.length_range]; omega), List.getElem?_eq_none (by rw [List.length_reverse, Array.length_toList]; omega)]
    rfl
theorem getItem_tuple_rev {t sl : Addr} {items : Array Value} {vs : Value} {Q : Value → Shared → Prop} (ht : IsTup s.heap t items) (hs : s.heap.IsSliceOf sl .none .none vs) (ps : IsPart vs (some (-1)))
    (h : Q (.ref s.heap.objs.size) { s with heap := s.heap.push { cls := .type "tuple", data := .seq items.toList.reverse.toArray } }) (hsz : items.size ≤ sizeLine) : wpAny (model prog w) A (getItem (.ref t) (.ref sl)) Q E s := by
  have htake : sizeOk (.seq items.toList.reverse.toArray) := by
    show items.toList.reverse.toArray.size ≤ sizeLine
    rw [List.size_toArray, List.length_reverse, Array.length_toList]
    exact hsz
  obtain ⟨os, hos, hcs, hds⟩ := id hs
  have hTs : s.TypeIs (.ref sl) "slice" := ⟨os, hos, hcs⟩
  unfold getItem
  try with_reducible refine wpAny_holding ?_
  first | refine wpAny_bind (wpAny_pure ?_) | skip
  refine wpAny_bind (wpAny_sequenceKey ht.typeIs (by decide) ?_)
  refine wpAny_bind (wpAny_callSpecial?_slot (name := Str.ofString "__getitem__") ht.typeIs PyProof.Rows.slot_tuple_getitem
    (wpAny_call_entry PyProof.Rows.slot_tuple_getitem ht.typeIs entry_tuple_getitem ?_ (args_tuple_getitem _ _)))
  show wpAny _ _ (Builtin.Tuple.tupleItemsOf (.ref t) >>= _) _ _ s
  refine wpAny_bind (tupleItemsOf_ ht ?_)
  refine wpAny_bind (wpAny_typeOf hTs ?_)
  rw [if_pos (by decide)]
  have applied : ∀ {Q' : Int × Int × Nat → Shared → Prop}, Q' ((items.size : Int) - 1, -1, items.size) s → wpAny (model prog w) A.in1 (Builtin.Slice.sliceApplied (.ref sl) (pure (items.size : Int))) Q' (fun x s' => E x s') s := fun {Q'} q => by
    unfold Builtin.Slice.sliceApplied Builtin.Slice.sliceFields
    refine wpAny_bind (wpAny_bind (wpAny_field hos hds (x := .none) rfl (wpAny_bind (wpAny_field hos hds (x := .none) rfl (wpAny_bind (wpAny_field hos hds (x := vs) rfl (wpAny_pure ?_)))))))
    refine wpAny_bind (HT.slicePart_ ps ?_)
    show wpAny _ _ (if ((-1 : Int) == 0) = true then _ else _) _ _ s
    rw [if_neg (by decide)]
    refine wpAny_bind (slicePart_none (wpAny_bind (slicePart_none (wpAny_bind (wpAny_pure ?_)))))
    show wpAny _ _ (match Builtin.Slice.sliceAdjust none none (-1) (items.size : Int) with | (lo, hi) => pure (lo, (-1 : Int), Builtin.Slice.slicePlaces lo hi (-1))) _ _ s
    rw [adjust_rev]
    show wpAny _ _ (pure ((items.size : Int) - 1, (-1 : Int), Builtin.Slice.slicePlaces ((items.size : Int) - 1) (-1) (-1))) _ _ s
    rw [places_rev]
    exact wpAny_pure q
  refine wpAny_bind (applied ?_)
  show wpAny _ _ (if ((items.size : Int) - 1 == 0 && (-1 : Int) == 1 && items.size == items.size) = true then _ else _) _ _ s
  rw [if_neg (by rw [show ((-1 : Int) == 1) = false from rfl, Bool.and_false, Bool.false_and]; exact Bool.false_ne_true), pick_rev]
  first
    | exact wpAny_bind (m := Builtin.Tuple.tupleExact _) (wpAny_newObj_type (wpAny_pure ⟨_, rfl, wpAny_pure h⟩) htake)
    | exact wpAny_bind (m := Builtin.Tuple.tupleExact _) (wpAny_newObj_type (wpAny_bind (wpAny_pure (wpAny_pure ⟨_, rfl, wpAny_pure h⟩))) htake)
    | exact wpAny_bind (wpAny_bind (m := Builtin.Tuple.tupleExact _) (wpAny_newObj_type (wpAny_pure (wpAny_pure ⟨_, rfl, wpAny_pure h⟩)) htake))
    | exact wpAny_bind (wpAny_bind (m := Builtin.Tuple.tupleExact _) (wpAny_newObj_type (wpAny_pure ⟨_, rfl, wpAny_pure h⟩) htake))
end
end L2
namespace L2
open PySem PySem.Spec PyProof.Rows
def tRevT (K : PySem.W.Frag) (te : TE) : TE := fun σ H Q => te σ H fun x H1 => ∃ a xs, x = .ref a ∧ SqT K H1 a xs ∧ ∀ p, H1 p = none → Q (.ref p) (upd H1 p (.tup xs.reverse))
section
variable {X : Cx}
theorem pe_revT {e : Expr} {te : TE} {k : Nat} {p1 p2 p3 pos : Pos} (he : PE X e te) : PE X (.Subscript e (.Slice none none (some (.UnaryOp .USub (.Constant (.int 1) k p1) p2)) p3) pos) (tRevT X.K te) := by
  refine ⟨fun pins s σ H Q I h => ?_⟩
  refine Subscript_ (thn (he.run pins s σ H _ I h) fun v s1 ⟨x, H1, I1, r1, q1⟩ => ?_)
  obtain ⟨a, xs, ex, hx, q⟩ := q1
  subst ex
  cases r1
  have hst : PO X (some (.UnaryOp .USub (.Constant (.int 1) k p1) p2)) (tPart (tUn (rU fun i => .int (-i)) (tC (.int 1)))) := po_some (pe_un un_neg pe_int)
  refine wpAny_Slice (thn (po_none.run pins s1 σ H1 (fun o H2 => o = none ∧ H2 = H1) I1 ⟨rfl, rfl⟩) fun vl s2 ⟨l, H2, I2, pl, el, e2⟩ => ?_)
  subst el e2
  refine thn (po_none.run pins s2 σ H2 (fun o H3 => o = none ∧ H3 = H2) I2 ⟨rfl, rfl⟩) fun vu s3 ⟨u, H3, I3, pu, eu, e3⟩ => ?_
  subst eu e3
  refine thn (hst.run pins s3 σ H3 (fun o H4 => o = some (-1) ∧ H4 = H3) I3 ⟨1, rfl, -1, rfl, rfl, rfl⟩) fun vs s4 ⟨o, H4, I4, ps, eo, e4⟩ => ?_
  subst eo e4
  cases pl
  cases pu
  have I5 : Inv X pins σ H4 { s4 with heap := s4.heap.push { cls := .type "slice", data := .fields #[.none, .none, vs] } } := I4.kept (t' := s4.toks) fun b ob q => Heap.get?_push_of_some _ q
  obtain ⟨its, r, ht, hz⟩ := I5.tuple hx
  have hlen := r.length
  show wpAny (model X.prog X.w) X.A (subscriptTail e (.Slice none none (some (.UnaryOp .USub (.Constant (.int 1) k p1) p2)) p3) (.ref a) (.ref s4.heap.objs.size)) (EP X pins σ Q) X.xe { s4 with heap := s4.heap.push { cls := .type "slice", data := .fields #[.none, .none, vs] } }
  refine tail_any (ops := [.ref a, .ref s4.heap.objs.size]) ht.typeIs (PyProof.Rows.slot_tuple_getitem.lookup) ?_ (by with_unfolding_all rfl)
  refine getItem_tuple_rev ht (Heap.IsSliceOf.new _ .none .none vs) ps ?_ (by rw [List.size_toArray]; omega)
  refine ⟨.ref _, _, I5.laid (t' := s4.toks) (o := .tup xs.reverse) (fun b ob q => Heap.get?_push_of_some _ q) (Nat.le_refl _) ?_, rfl, q _ (I5.hok.fresh (Nat.le_refl _))⟩
  exact ⟨by rw [List.length_reverse]; exact hz, _, r.reverse, IsTup.new _ _⟩
/-- a bool or an int, and an int -/
def asI : V → Option Int
  | .int i => some i
  | .bl b => some (if b = true then 1 else 0)
  | _ => none
theorem op_addA : OpR X (binaryOp .Add) (fun x y H Q => ∃ i j, asI x = some i ∧ y = .int j ∧ Q (.int (i + j)) H) := by
  intro pins s σ H x y v u Q I rx ry h
  obtain ⟨i, j, hx, rfl, q⟩ := h
  obtain ⟨t, rfl⟩ := ry
  cases x with
  | int k =>
    cases hx
    obtain ⟨t', rfl⟩ := rx
    exact add_int ⟨.int _, H, I.tok _, ⟨_, rfl⟩, q⟩
  | bl k =>
    cases hx
    cases rx
    exact PySem.IntBool.add_bool_int ⟨.int _, H, I.tok _, ⟨_, rfl⟩, q⟩
  | _ => cases hx
theorem op_subA : OpR X (binaryOp .Sub) (fun x y H Q => ∃ i j, asI x = some i ∧ y = .int j ∧ Q (.int (i - j)) H) := by
  intro pins s σ H x y v u Q I rx ry h
  obtain ⟨i, j, hx, rfl, q⟩ := h
  obtain ⟨t, rfl⟩ := ry
  cases x with
  | int k =>
    cases hx
    obtain ⟨t', rfl⟩ := rx
    exact sub_int ⟨.int _, H, I.tok _, ⟨_, rfl⟩, q⟩
  | bl k =>
    cases hx
    cases rx
    exact PySem.IntBool.sub_bool_int ⟨.int _, H, I.tok _, ⟨_, rfl⟩, q⟩
  | _ => cases hx
end
end L2

set_option Elab.async false
set_option linter.all false
set_option maxRecDepth 100000
set_option maxHeartbeats 2000000
/-! D39: t[::-1], True + 1, d[k], x = .. over data. -/
namespace Dl
open PySem PySem.Spec PyProof.Rows L2
/-- a bool or an int -/
def asID : D → Option Int
  | .int i => some i
  | .bl b => some (if b = true then 1 else 0)
  | _ => none
section
variable {M : Mach} {X : Cx} {N : List Str} {sc : Scope} {vb lb gb : Str → Bool} {B : Bs} {G : Sl} {O : Own} {a b e : Expr} {pos p1 p2 p3 : Pos} {d d1 : D} {ds : List D} {i j : Int}
theorem rep_asI {K : PySem.W.Frag} {F : Hp} {v : V} (r : Rep K F v d) (h : asID d = some i) : asI v = some i := by
  cases r <;> first | exact h | cases h
theorem pv_addA (ha : PEv X B G O a d) (hi : asID d = some i) (hb : PEv X B G O b (.int j)) : PEv X B G O (.BinOp a .Add b pos) (.int (i + j)) :=
  pv_op (R := fun x y O Φ => ∃ i j, asID x = some i ∧ y = .int j ∧ Φ (.int (i + j)) O) op_addA (fun B G O F σ H x y dx dy Φ S rx ry h Q k => by
    obtain ⟨i, j, hi, rfl, q⟩ := h
    cases ry
    exact ⟨i, j, rep_asI rx hi, rfl, k _ F H _ O S (Same.refl _) (.int _) q⟩) ha hb ⟨i, j, hi, rfl, rfl, rfl⟩
theorem pv_subA (ha : PEv X B G O a d) (hi : asID d = some i) (hb : PEv X B G O b (.int j)) : PEv X B G O (.BinOp a .Sub b pos) (.int (i - j)) :=
  pv_op (R := fun x y O Φ => ∃ i j, asID x = some i ∧ y = .int j ∧ Φ (.int (i - j)) O) op_subA (fun B G O F σ H x y dx dy Φ S rx ry h Q k => by
    obtain ⟨i, j, hi, rfl, q⟩ := h
    cases ry
    exact ⟨i, j, rep_asI rx hi, rfl, k _ F H _ O S (Same.refl _) (.int _) q⟩) ha hb ⟨i, j, hi, rfl, rfl, rfl⟩
theorem pv_revT {k : Nat} (ha : PEv X B G O a (.tup ds)) : PEv X B G O (.Subscript a (.Slice none none (some (.UnaryOp .USub (.Constant (.int 1) k p1) p2)) p3) pos) (.tup ds.reverse) := fun F σ H S Q kk =>
  sem (pe_revT pe_sem) (ha F σ H S _ fun v F1 H1 d O1 S1 e1 r1 p1 => by
    obtain ⟨rfl, rfl⟩ := p1
    cases r1 with
    | @tup a vs ds q rs =>
      refine ⟨_, _, rfl, sqT_mono S1.ex q, fun p hp => ?_⟩
      have e2 : Same F1 (upd F1 p (.tup vs.reverse)) := same_upd (S1.fresh hp).1
      exact kk _ _ _ _ _ (S1.alloc hp _) (e1.trans e2) (.tup (SqT.of upd_same) (rs.reverse.mono e2)) ⟨rfl, rfl⟩)
/-- d[k] = .. as a target -/
theorem wg_dsub {vs : Nat → Prop} {Φ : Sl → Own → Prop} {n : Int} (C : Cxt M X N sc vb lb gb) (h : WE X B G O a fun d1 O1 => ∃ q, d1 = .obj q ∧ WE X B G O1 b fun d2 O2 => ∃ (k : Int) (tb : List (Int × Int)) (O3 : Own), d2 = .int k ∧ (q, OV.dic (tb.map entD)) ∈ O2 ∧ tb.length < 1000000 ∧ OSet O2 q (.dic ((putI tb k n).map entD)) O3 ∧ Φ G O3)
    (hsb : ∀ v, assign (.Subscript a b pos) X.env v = (do
      let ov ← holding [v] (eval a X.env)
      let iv ← holding [v, ov] (eval b X.env)
      standAt pos
      holding [v, ov, iv] (setItem ov iv v)
      release [v, ov, iv] []) := by intro _; rfl) : WG X B G O (.Subscript a b pos) vs (.int n) Φ := fun F σ H v S r Q k => by
  cases r
  refine semG (pg_sub pe_sem pe_sem (set_dict (Nat.lt_of_le_of_lt (by omega) C.un)) hsb) ?_
  refine h F σ H S _ fun u F1 H1 d1 O1 S1 e1 r1 p1 => ?_
  obtain ⟨q, rfl, p1⟩ := p1
  cases r1
  refine p1 F1 σ H1 S1 _ fun w F2 H2 d2 O2 S2 e2 r2 p2 => ?_
  obtain ⟨i, tb, O3, rfl, hm, hl, hs, p2⟩ := p2
  cases r2
  refine ⟨q, _, rfl, DPut.k (k := Sum.inl i) (own_dic S2 hm) (by rw [List.length_map]; exact Nat.lt_of_lt_of_le hl (len_line (Nat.le_refl _))), ?_⟩
  rw [putK_putI]
  exact k G O3 F2 _ _ (S2.mut hs ⟨_, upd_same, ints_preps _⟩) (e1.trans e2) Touch.refl p2
end
end Dl

set_option Elab.async false
set_option linter.all false
set_option maxRecDepth 100000
set_option maxHeartbeats 2000000
/-! D40: zip of a list and a tuple. -/
namespace RZ
open PySem PySem.Spec PyProof.Rows L2
/-- the list at a and the tuple at b, in new pairs -/
def ItzM (K : PySem.W.Frag) (a b : Addr) : It :=
  ⟨fun i H => ∃ (xs ys : List V) (x y : V), SqL K H a xs ∧ SqT K H b ys ∧ xs[i]? = some x ∧ ys[i]? = some y,
    fun i H v H' => ∃ T x y, v = .ref T ∧ H T = none ∧ H' = upd H T (.tup [x, y]) ∧ (∀ xs, SqL K H a xs → xs[i]? = some x) ∧ ∀ ys, SqT K H b ys → ys[i]? = some y,
    fun i H => ∃ xs ys : List V, SqL K H a xs ∧ SqT K H b ys ∧ xs.length = i ∧ ys.length = i⟩
theorem sep_of {z TI TO i1 i2 a b : Addr} (D : ZipApart z TI TO i1 i2 a b) : ZipSep2 z TI TO i1 i2 [i1, a] [i2, b] := by
  refine ⟨D.TIz, D.TOz, D.TITO, D.TIi1, List.mem_cons_self, ?_, ?_, D.TIi2, List.mem_cons_self, ?_, ?_, ?_, ?_⟩ <;>
    simp only [List.mem_cons, List.not_mem_nil, or_false, not_or]
  · exact ⟨Ne.symm D.i1z, Ne.symm D.l1z⟩
  · exact ⟨D.TOi1, Ne.symm D.l1TO⟩
  · exact ⟨Ne.symm D.i2z, Ne.symm D.l2z⟩
  · exact ⟨D.TOi2, Ne.symm D.l2TO⟩
  · exact ⟨D.i12, Ne.symm D.l2i1⟩
  · exact ⟨Ne.symm D.i12, Ne.symm D.l1i2⟩
theorem turn_zipM {P : Program} {w : World} {K : PySem.W.Frag} {elts : List Expr} {kk : Nat} {tpos : Pos} {a b z TI TO i1 i2 : Addr} (D : ZipApart z TI TO i1 i2 a b) :
    Turn P w K (.Tuple elts kk tpos) (ItzM K a b) [z, TI, TO, i1, i2] z (fun i h => IsZip h z TI TO .none ∧ IsPair h TI (.ref i1) (.ref i2) ∧ (∃ x y, IsPair h TO x y) ∧ h.IsListIter i1 a i ∧ h.IsTupleIter i2 b i) where
  mem := List.mem_cons_self
  obj := fun i h st c hc => by
    obtain ⟨hz, hTI, ⟨x, y, hTO⟩, ⟨o1, e1, _, d1⟩, ⟨o2, e2, _, d2⟩⟩ := st
    simp only [List.mem_cons, List.not_mem_nil, or_false] at hc
    rcases hc with rfl | rfl | rfl | rfl | rfl
    · exact ⟨_, hz, fun v q => nomatch q⟩
    · exact ⟨_, hTI, fun v q => nomatch q⟩
    · exact ⟨_, hTO, fun v q => nomatch q⟩
    · exact ⟨o1, e1, fun v q => by rw [d1] at q; cases q⟩
    · exact ⟨o2, e2, fun v q => by rw [d2] at q; cases q⟩
  keep := fun i h h' ⟨hz, hTI, ⟨x, y, hTO⟩, h1, h2⟩ k => ⟨k z (by simp) _ hz, k TI (by simp) _ hTI, ⟨x, y, k TO (by simp) _ hTO⟩, h1.at fun o q => k i1 (by simp) o q, h2.at fun o q => k i2 (by simp) o q⟩
  item := by
    intro X hP hw hK hc i pins s σ H E I hf st hg
    subst hP hw hK
    obtain ⟨hz, hTI, ⟨x0, y0, hTO⟩, h1, h2⟩ := st
    obtain ⟨xs, ys, x, y, hqx, hqy, hx, hy⟩ := hg
    obtain ⟨its, rv, p, _⟩ := I.list hqx
    obtain ⟨its2, rv2, p2, _⟩ := I.tuple hqy
    obtain ⟨u, hu, ru⟩ := rv.get hx
    obtain ⟨u2, hu2, ru2⟩ := rv2.get hy
    have hin : X.A.in1.handled = none := by simp [I.ok.hd hc]
    have hu' : its.toArray[i]? = some u := by simpa using hu
    have hu2' : its2.toArray[i]? = some u2 := by simpa using hu2
    have hzl : z < s.heap.objs.size := Heap.lt_size hz
    refine wpAny_pyNext_zipD2_item (sep_of D) (Draws.list hin i1 a D.l1i1 its.toArray) (Draws.tuple hin i2 b D.l2i2 its2.toArray) hz hTI hTO ⟨h1, p.isList⟩ ⟨h2, (show s.heap.IsTuple b its2.toArray from p2)⟩ (Array.getElem?_eq_some_iff.mp hu').1 (Array.getElem?_eq_some_iff.mp hu2').1 fun v1 v2 h' tk e1 e2 z' TO' d1 d2 hT hsz hk => ?_
    obtain rfl : v1 = u := Option.some.inj (e1.symm.trans hu')
    obtain rfl : v2 = u2 := Option.some.inj (e2.symm.trans hu2')
    refine ⟨_, rfl, wpAny_letOwnedTupleGo_zip (s := { s with heap := h', toks := tk }) z' fun h'' z'' sb => ?_⟩
    have hT2 : h''.get? s.heap.objs.size = some { cls := .type "tuple", data := .seq #[v1, v2] } := (sb.2 _ (Nat.ne_of_gt hzl)).trans hT
    have new : ObjOk X.prog X.w (upd H s.heap.objs.size (.tup [x, y])) h'' s.heap.objs.size (.tup [x, y]) := ⟨by show 2 ≤ sizeLine; decide, [v1, v2], .cons ru (.cons ru2 .nil), ⟨_, hT2, rfl, _, rfl⟩⟩
    have I1 : Inv X pins σ (upd H s.heap.objs.size (.tup [x, y])) { s with heap := h'', toks := tk } :=
      I.turnedNew (t' := tk) (ch := [z, TI, TO, i1, i2]) (fun c o hb q => (sb.2 c (fun q' => hb (by simp [q']))).trans (hk c o (fun q' => hb (by simp [q'])) (fun q' => hb (by simp [q'])) (fun q' => hb (by simp [q'])) (fun q' => hb (by simp [q'])) q)) hf (Nat.le_refl _) new
    refine ⟨.ref s.heap.objs.size, _, I1, rfl, ⟨_, x, y, rfl, I.hok.fresh (Nat.le_refl _), rfl, fun l hl => by rw [I.list_inj hl hqx]; exact hx, fun l hl => by rw [I.tuple_inj hl hqy]; exact hy⟩, ⟨z'', (sb.2 _ D.TIz).trans (hk _ _ D.TIz D.TITO D.TIi1 D.TIi2 hTI), ⟨v1, v2, (sb.2 _ D.TOz).trans TO'⟩, d1.1.at fun o q => (sb.2 _ D.i1z).trans q, d2.1.at fun o q => (sb.2 _ D.i2z).trans q⟩, fun c hcm => ?_⟩
    have hlt : c < s.heap.objs.size := by
      have e' := hcm
      simp only [List.mem_cons, List.not_mem_nil, or_false] at e'
      rcases e' with rfl | rfl | rfl | rfl | rfl
      · exact hzl
      · exact Heap.lt_size hTI
      · exact Heap.lt_size hTO
      · obtain ⟨_, e1, _⟩ := h1; exact Heap.lt_size e1
      · obtain ⟨_, e2, _⟩ := h2; exact Heap.lt_size e2
    rw [upd_ne (Nat.ne_of_lt hlt)]
    exact (hf c hcm).1
  done := by
    intro X hP hw hK hc i pins s σ H E I hf st hg
    subst hP hw hK
    obtain ⟨hz, hTI, ⟨x0, y0, hTO⟩, h1, h2⟩ := st
    obtain ⟨xs, ys, hqx, hqy, e1, e2⟩ := hg
    obtain ⟨its, rv, p, _⟩ := I.list hqx
    obtain ⟨its2, rv2, p2, _⟩ := I.tuple hqy
    have hin : X.A.in1.handled = none := by simp [I.ok.hd hc]
    have l1 : its.toArray.size = i := by rw [List.size_toArray, ← rv.length]; exact e1
    have l2 : its2.toArray.size = i := by rw [List.size_toArray, ← rv2.length]; exact e2
    exact wpAny_pyNext_zipD2_end (sep_of D) (Draws.list hin i1 a D.l1i1 its.toArray) (Draws.tuple hin i2 b D.l2i2 its2.toArray) hz hTI hTO ⟨h1, p.isList⟩ ⟨h2, (show s.heap.IsTuple b its2.toArray from p2)⟩ (Nat.le_of_eq l1.symm) (Nat.le_of_eq l2.symm) (.inl l1.symm) fun h' tk hk => ⟨rfl, I.turnedL (t' := tk) (ch := [z, TI, TO, i1, i2]) (fun c o hb q =>
      hk c o (fun q' => hb (by simp [q'])) (fun q' => hb (by simp [q'])) (fun q' => hb (by simp [q'])) (fun q' => hb (by simp [q'])) q) hf⟩
  self := fun A i s Q E st h => wpAny_pyIter_zip st.1 h
def iZipM (K : PySem.W.Frag) (ta : TA) : TI := fun σ H R => ta σ H fun vs H1 => ∃ a b xs ys, vs = [.ref a, .ref b] ∧ SqL K H1 a xs ∧ SqT K H1 b ys ∧ R (ItzM K a b) H1
theorem pi_zipM {X : Cx} {e e2 : Expr} {ta : TA} {p pos tpos : Pos} {elts : List Expr} {kk : Nat} (hg : Gl X "zip") (hm : X.mg "zip" = none) (ha : PA X [e, e2] ta)
    (hs : starEach [e, e2] X.env = (false, eval e X.env) :: starEach [e2] X.env) (hpl : (backTo pos (starEach [e2] X.env)).any (·.1) = false) : PI X (.Tuple elts kk tpos) (.Call (.Name "zip" p) [e, e2] [] pos) (iZipM X.K ta) := by
  refine ⟨fun pins s σ H R I h => Call_ (ld_blt I hg hm PyProof.Rows.boot_zip (PyProof.Rows.callWith_type1 (thn (ha.run pos pins s σ H _ I h) fun us s1 ⟨vs, H1, I1, r1, a, b, xs, ys, ex, hqx, hqy, q⟩ => ?_) hs hpl))⟩
  subst ex
  obtain ⟨u, u', rfl, r, r'⟩ : ∃ u u', us = [u, u'] ∧ RelV (.ref a) u ∧ RelV (.ref b) u' := by
    cases r1 with
    | cons r rr => cases rr with
      | cons r' rr => cases rr; exact ⟨_, _, rfl, r, r'⟩
  cases r
  cases r'
  obtain ⟨its, rv, p1, _⟩ := I1.list hqx
  obtain ⟨its2, rv2, p2, _⟩ := I1.tuple hqy
  obtain ⟨o2, ho2, _⟩ := id p2
  refine zip_begins2 (begins_list a its.toArray) (begins_tuple b its2.toArray) p1.isList (show s1.heap.IsTuple b its2.toArray from p2) fun h' hz hTI hTO h1 h2 hsz hk => wpAny_pyIter_zip hz ?_
  have I2 : Inv X pins σ H1 { s1 with heap := h' } := I1.kept (t' := s1.toks) hk
  refine ⟨s1.heap.objs.size + 4, [s1.heap.objs.size + 4, s1.heap.objs.size + 2, s1.heap.objs.size + 3, s1.heap.objs.size, s1.heap.objs.size + 1], _, _, H1, rfl, I2, turn_zipM (PySem.W.ktu_apart s1.heap.objs.size a b p1.lt (Heap.lt_size ho2)), ⟨hz, hTI, ⟨_, _, hTO⟩, ⟨_, h1, rfl, rfl⟩, ⟨_, h2, rfl, rfl⟩⟩, fun c hcm => ?_, q⟩
  have hle : s1.heap.objs.size ≤ c := by
    simp only [List.mem_cons, List.not_mem_nil, or_false] at hcm
    rcases hcm with e | e | e | e | e <;> rw [e] <;> first | exact Nat.le_add_right _ _ | exact Nat.le_refl _
  exact I1.fpOk hle (I1.hok.fresh hle)
end RZ
namespace Dl
open PySem PySem.Spec PyProof.Rows L2
theorem jok_zipM {K : PySem.W.Frag} {F : Hp} {a b : Addr} {vs ws : List V} {ds es : List D} (h1 : SqL K F a vs) (r1 : Reps K F vs ds) (h2 : SqT K F b ws) (r2 : Reps K F ws es) (hl : ds.length = es.length) : JOk K (RZ.ItzM K a b) F [] (zipD ds es) where
  go := fun i F2 H2 e1 e2 _ hi => by
    have hz : (zipD ds es).length = ds.length := by unfold zipD; rw [List.length_zipWith]; omega
    rw [hz] at hi
    exact ⟨vs, ws, vs[i]'(by rw [r1.length]; exact hi), ws[i]'(by rw [r2.length]; omega), (e1.trans e2).seq h1, sqT_mono (e1.trans e2) h2, by simp, by simp⟩
  stop := fun F2 H2 e1 e2 _ => by
    have hz : (zipD ds es).length = ds.length := by unfold zipD; rw [List.length_zipWith]; omega
    rw [hz]
    exact ⟨vs, ws, (e1.trans e2).seq h1, sqT_mono (e1.trans e2) h2, r1.length, by rw [r2.length]; exact hl.symm⟩
  yld := fun i F2 H2 x H3 e1 e2 _ hi y => by
    obtain ⟨T, u, v, rfl, hT, rfl, y1, y2⟩ := y
    obtain ⟨d, hd, rd⟩ := r1.get' (y1 vs ((e1.trans e2).seq h1))
    obtain ⟨e, he, re⟩ := r2.get' (y2 ws (sqT_mono (e1.trans e2) h2))
    exact ⟨_, zipD_get hd he, .inr ⟨T, _, hT, rfl, pair_rep (e2.free hT) (rd.mono e1) (re.mono e1)⟩⟩
section
variable {M : Mach} {X : Cx} {N : List Str} {sc : Scope} {vb lb gb : Str → Bool} {B : Bs} {G : Sl} {O : Own} {a b : Expr} {pos p tpos : Pos}
/-- zip of a list and a tuple of one length -/
theorem wiv_zipM {xs ys : List D} {elts : List Expr} {kk : Nat} (C : Cxt M X N sc vb lb gb) (hm : M.mg "zip" = none) (hg : gb "zip" = true) (ha : PEv X B G O a (.lst xs)) (hb : PEv X B G O b (.tup ys)) (hl : xs.length = ys.length) (sa : Plain1 a := by exact fun _ _ => star_cons rfl) (sb : Plain1 b := by exact fun _ _ => star_cons rfl) :
    WIv X B G O (.Tuple elts kk tpos) (.Call (.Name "zip" p) [a, b] [] pos) (zipD xs ys) [] := fun F σ H S R k =>
  semI (RZ.pi_zipM (C.gl _ hg).1 (by rw [C.mg]; exact hm) pa_sem (sa _ _) (plain_any sb)) ((pa_consv ha (pa_consv hb pa_nilv (sb _ _)) (sa _ _) : PAv X B G O [a, b] [.lst xs, .tup ys]) F σ H S _ fun vs F1 H1 zs O1 S1 e1 r1 p1 => by
    obtain ⟨rfl, rfl⟩ := p1
    obtain ⟨v, w, rfl, rv, rw'⟩ := reps2 r1
    cases rv with
    | lst hq rs => cases rw' with
      | tup hq2 rs2 => exact ⟨_, _, _, _, rfl, S1.ex.seq hq, sqT_mono S1.ex hq2, k _ F1 H1 _ _ O1 S1 e1 (jok_zipM hq rs hq2 rs2 hl) ⟨rfl, rfl, rfl⟩⟩)
end
end Dl

set_option Elab.async false
set_option linter.all false
set_option maxRecDepth 100000
set_option maxHeartbeats 2000000
/-! D41: all(..) of what a call gives; lists of ints without repetition. -/
namespace Dl
open PySem PySem.Spec PyProof.Rows L2
section
variable {M : Mach} {X : Cx} {N : List Str} {sc : Scope} {vb lb gb : Str → Bool} {B : Bs} {G : Sl} {O : Own} {a : Expr} {pos p : Pos}
theorem we_all {Φ : D → Own → Prop} (C : Cxt M X N sc vb lb gb) (hm : M.mg "all" = none) (hg : gb "all" = true) (h : WE X B G O a fun d O1 => ∃ ns : List Bool, ItemsL O1 d (ns.map D.bl) ∧ Φ (.bl (ns.all id)) O1) (sa : Plain1 a := by exact fun _ _ => star_cons rfl) : WE X B G O (.Call (.Name "all" p) [a] [] pos) Φ :=
  we_callB (R := fun xs O Φ => ∃ (d : D) (ns : List Bool), xs = [d] ∧ ItemsL O d (ns.map D.bl) ∧ Φ (.bl (ns.all id)) O) C (cr_all C.calm) (fun B G O F σ H xs ds Φ S r h Q k => by
    obtain ⟨d, ns, rfl, it, q⟩ := h
    obtain ⟨v, rfl, rv⟩ := reps1 r
    obtain ⟨a, vs, rfl, rs, hq⟩ := itemsL_ok S rv it
    rw [reps_bls rs] at hq
    exact ⟨a, ns, rfl, hq, k _ F H _ O S (Same.refl _) (.bl _) q⟩) hm hg (by decide +kernel) (wa_cons (h.mono fun d O1 z => wa_nil (by
      obtain ⟨ns, it, q⟩ := z
      exact ⟨d, ns, rfl, it, q⟩)) (sa _ _)) (he := sa _ _)
end
/-- different whole numbers from 0 to n - 1 are at most n -/
theorem nodup_le : ∀ (n : Nat) {xs : List Int}, xs.Nodup → (∀ x ∈ xs, 0 ≤ x ∧ x < n) → xs.length ≤ n
  | 0, xs, _, h => by
    cases xs with
    | nil => exact Nat.le_refl _
    | cons x r => have := h x List.mem_cons_self; omega
  | n + 1, xs, nd, h => by
    have h1 := nodup_le n (nd.filter fun x => decide (x ≠ (n : Int))) fun x hx => by
      obtain ⟨h1, h2⟩ := List.mem_filter.mp hx
      have := h x h1
      have h2 := of_decide_eq_true h2
      omega
    have h2 : ∀ {xs : List Int}, xs.Nodup → xs.length ≤ (xs.filter fun x => decide (x ≠ (n : Int))).length + 1 := by
      intro xs nd
      induction xs with
      | nil => exact Nat.zero_le _
      | cons x r ih =>
        obtain ⟨n1, n2⟩ := List.nodup_cons.mp nd
        by_cases c : x = (n : Int)
        · have e : (r.filter fun x => decide (x ≠ (n : Int))) = r := List.filter_eq_self.mpr fun y hy => decide_eq_true fun z => n1 (by rw [c, ← z]; exact hy)
          rw [List.filter_cons_of_neg (by simp [c]), e, List.length_cons]
          exact Nat.le_refl _
        · rw [List.filter_cons_of_pos (by simp [c]), List.length_cons, List.length_cons]
          have := ih n2
          omega
    have := h2 nd
    omega
end Dl

set_option Elab.async false
set_option linter.all false
set_option maxRecDepth 100000
set_option maxHeartbeats 2000000
/-! D42: less is said behind a return; lists of ints compared. -/
namespace Dl
open PySem PySem.Spec PyProof.Rows L2
section
variable {M : Mach} {X : Cx} {N : List Str} {sc : Scope} {vb lb gb : Str → Bool} {B : Bs} {G : Sl} {O : Own} {E : EndsD}
theorem ws_lessR {st : Stmt} (h : WS X B G O st ⟨E.nx, fun d O' => ∃ O'', O''.Sublist O' ∧ E.rt d O'', E.bk, E.ct⟩) : WS X B G O st E := fun F σ H S D' k =>
  h F σ H S D' ⟨k.nx, fun G' O' F' σ' H' v d S' e' r p => by
    obtain ⟨O'', hs, p⟩ := p
    exact k.rt G' O'' F' σ' H' v d (S'.sub (fun p hp => hs.subset hp) ((hs.map _).nodup S'.nd)) e' r p, k.bk, k.ct⟩
theorem swapCell {env : Env} {x y : Str} {a b : Expr} {px py pt pt2 : Pos} {kt k2} (hx : env.kindOf x = some .cell) (hst : ([a, b].any fun | .Starred .. => true | _ => false) = false) : swappedStores [.Tuple [.Name x px, .Name y py] kt pt] (.Tuple [a, b] k2 pt2) env = pure none := by
  unfold swappedStores
  have hx1 : (env.kindOf x == some NameKind.local) = false := by rw [hx]; rfl
  simp only [List.filterMap_cons, List.filterMap_nil, hx1, Bool.false_and]
  repeat' split
  all_goals first | rfl | (exfalso; simp_all)
/-- a, b = .. where the first name is also a comprehension's -/
theorem ws_parCell {x y : Str} {a b : Expr} {px py pt pt2 pos : Pos} {kt k2} {vs : Nat → Prop} (C : Cxt M X N sc vb lb gb) (lx : sc.names.lookup x = some .cell) (h : WE X B G O (.Tuple [a, b] k2 pt2) fun d O' => WG X B G O' (.Tuple [.Name x px, .Name y py] kt pt) vs d E.nx) (hst : ([a, b].any fun | .Starred .. => true | _ => false) = false := by rfl)
    (hs : swapsWithSole [.Tuple [.Name x px, .Name y py] kt pt] (.Tuple [a, b] k2 pt2) pos.line X.env = pure false := by rfl) : WS X B G O (.Assign [.Tuple [.Name x px, .Name y py] kt pt] (.Tuple [a, b] k2 pt2) pos) E := ws_asg h hs (swapCell (by show X.env.scope.names.lookup x = _; rw [C.hsc]; exact lx) hst) rfl
/-- x is not y, of bools -/
def dNotB : DR2 := fun x y O Φ => ∃ a b : Bool, x = .bl a ∧ y = .bl b ∧ Φ (.bl (!decide (a = b))) O
theorem dop_notB : DOp X rNotB dNotB := fun B G O F σ H x y dx dy Φ S rx ry h Q k => by
  obtain ⟨a, b, rfl, rfl, q⟩ := h
  cases rx
  cases ry
  exact ⟨a, b, rfl, rfl, k _ F H _ O S (Same.refl _) (.bl _) q⟩
theorem pt_notB {a b : Expr} {pos : Pos} {x y : Bool} (ha : PEv X B G O a (.bl x)) (hb : PEv X B G O b (.bl y)) : PTv X B G O (.Compare a [.IsNot] [b] pos) (!decide (x = y)) :=
  ptv_cmp op_notBl dop_notB (nomark _) ha hb ⟨x, y, rfl, rfl, rfl, rfl⟩ fun O Φ Ψ k ⟨a, b, h1, h2, z⟩ => ⟨a, b, h1, h2, k _ _ z⟩
/-- a slice of a list that a call gives -/
theorem wn_slice {a : Expr} {lo hi : Option Expr} {p2 pos : Pos} {Φ : List D → Own → Prop} (h : WE X B G O a fun d O1 => ∃ ds l h, ItemsL O1 d ds ∧ PartV X B G O1 lo l ∧ PartV X B G O1 hi h ∧ Φ (cutD ds l h) O1) : WN X B G O (.Subscript a (.Slice lo hi none p2) pos) Φ := fun F σ H S Q k =>
  sem (pe_slice sl_list pe_sem po_sem po_sem) (h F σ H S _ fun v F1 H1 d O1 S1 e1 r1 p1 => by
    obtain ⟨ds, l, h, it, hl, hh, p⟩ := p1
    refine hl.run S1 fun F2 H2 S2 e2 => hh.run S2 fun F3 H3 S3 e3 => ?_
    obtain ⟨a, vs, rfl, rs, q⟩ := itemsL_ok S3 ((r1.mono e2).mono e3) it
    exact ⟨a, vs, rfl, q, fun p' hp => k p' _ F3 _ _ (S3.allocOwn hp (ov := .lst (cutD ds l h)) ⟨_, upd_same, cut_rep rs l h⟩) ((e1.trans e2).trans e3) p⟩)
end
theorem eqvAll_ints : ∀ xs ys : List Int, PyData.eqvAll (toPyL (xs.map D.int)) (toPyL (ys.map D.int)) = decide (xs = ys)
  | [], [] => rfl
  | x :: xs, [] => rfl
  | [], y :: ys => rfl
  | x :: xs, y :: ys => by
    show ((x == y) && PyData.eqvAll (toPyL (xs.map D.int)) (toPyL (ys.map D.int))) = _
    rw [eqvAll_ints xs ys, Bool.eq_iff_iff, Bool.and_eq_true, beq_iff_eq, decide_eq_true_iff, decide_eq_true_iff, List.cons.injEq]
theorem eqv_ints (xs ys : List Int) : PyData.eqv (.list (toPyL (xs.map D.int))) (.list (toPyL (ys.map D.int))) = decide (xs = ys) := eqvAll_ints xs ys
theorem shaped_ints (xs : List Int) : SeqAt.shaped (.list (toPyL (xs.map D.int))) = true := shaped_map fun _ _ => ⟨rfl, Nat.zero_le _⟩
theorem filt_empty {α : Type} {c : α → Bool} {f : α → D} (xs : List α) : ((xs.filter c).map f).isEmpty = xs.all fun x => !c x := by
  induction xs with
  | nil => rfl
  | cons x xs ih =>
    rw [List.filter_cons, List.all_cons]
    cases c x with
    | true => rfl
    | false => rw [if_neg Bool.false_ne_true, ih] <;> rfl
end Dl

set_option Elab.async false
set_option linter.all false
set_option maxRecDepth 100000
set_option maxHeartbeats 2000000
/-! D43: a generator's segments told by what is wanted at their end; `for x in xs: yield x`, at the machine's level. -/
namespace Gz
open PySem PySem.Spec PyProof.Rows L2 GenW
/-- from here the code runs to an end with Φ -/
def SegF (M : Model) (A : Around) (Φ : End → Shared → Prop) (c : Code) (t : Sem PySem.Fin) (fs : List Frame) (s : Shared) : Prop :=
  ∀ Γ p, Γ.code = c → Γ.Woken A → ∃ e s', Runs M Γ p t fs s e s' ∧ Φ e s'
section
variable {M : Model} {A : Around} {Φ Ψ : End → Shared → Prop} {c : Code} {fs : List Frame} {s : Shared} {env : Env}
  {K : Flow → Sem PySem.Fin} {J : Value → Sem PySem.Fin} {gd : Bool → Bool} {lv : List Value → List Value} {t : Sem PySem.Fin}
theorem SegF.mono (h : SegF M A Φ c t fs s) (k : ∀ e s', Φ e s' → Ψ e s') : SegF M A Ψ c t fs s := fun Γ p h1 h2 => by
  obtain ⟨e, s', hr, he⟩ := h Γ p h1 h2
  exact ⟨e, s', hr, k e s' he⟩
theorem sf_wrap {α : Type} {m : Sem α} {K : α → Sem PySem.Fin} {gd lv} (h : wpAny M (A.over c fs) m (fun a s' => SegF M A Φ c (K a) fs s') (fun x s' => SegF M A Φ c (J x) fs s') s) : SegF M A Φ c (m.wrap K J gd lv) fs s := by
  rintro Γ p rfl hΓ
  exact runs_wrap_of_wp K J gd lv m (h (Γ.over fs) p (hΓ.over fs)) (fun a p' s' h' => h' Γ p' rfl hΓ) fun x p' s' h' => h' Γ p' rfl hΓ
theorem sf_bind {α β : Type} {m : Sem α} {K : α → Sem β} {K' : β → Sem PySem.Fin} {gd lv} (h : wpAny M (A.over c fs) m (fun a s' => SegF M A Φ c ((K a).wrap K' J gd lv) fs s') (fun x s' => SegF M A Φ c (J x) fs s') s) : SegF M A Φ c ((m >>= K).wrap K' J gd lv) fs s := by
  rw [Sem.bind_eq_wrap', Sem.wrap_wrap]
  exact sf_wrap h
theorem sf_at {p' : Pos} {k : Unit → Sem PySem.Fin} (h : SegF M A Φ c (k ()) fs s) : SegF M A Φ c (.at p' k) fs s := sf_wrap (J := .raise) (m := standAt p') (K := k) (gd := id) (lv := id) (wpAny_standAt h)
theorem sf_point {l : List Value} {k : Unit → Sem PySem.Fin} (h : SegF M A Φ c (k ()) fs s) : SegF M A Φ c (.point l k) fs s := sf_wrap (J := .raise) (m := point) (K := k) (gd := id) (lv := fun _ => l) (wpAny_point h)
theorem sf_call {c' : Code} {h g l} {k : Result → Sem PySem.Fin} (hc : ∀ p, SegF M A Φ c' (M.den c') (.ret k h g l c p [] :: fs) s) : SegF M A Φ c (.call c' h g l k) fs s := by
  rintro Γ p rfl hΓ
  obtain ⟨e, s', hr, he⟩ := hc p (Γ.goto c') p rfl (hΓ.goto c')
  exact ⟨e, s', runs_call_seg hr, he⟩
theorem sf_leaf {k h g l c₁ p₁ kp} (r : Result) (hk : SegF M A Φ c₁ (k r) fs s) : SegF M A Φ c (leafOf r) (.ret k h g l c₁ p₁ kp :: fs) s := by
  rintro Γ p rfl hΓ
  obtain ⟨e, s', hr, he⟩ := hk (Γ.goto c₁) p₁ rfl (hΓ.goto c₁)
  exact ⟨e, s', Runs.pop r hr, he⟩
theorem sf_again {c' : Code} (hq : c'.quiet = true) (hc : SegF M A Φ c' (M.den c') fs s) : SegF M A Φ c (.pure (.again c')) fs s := by
  rintro Γ p rfl hΓ
  obtain ⟨e, s', hr, he⟩ := hc (Γ.goto c') p rfl (hΓ.goto c')
  exact ⟨e, s', Runs.head (c₁ := c') (fun _ _ x => .again hq x) hr, he⟩
theorem sf_end (r : Result) (h : Φ (.ret r) s) : SegF M A Φ c (leafOf r) [] s := by
  rintro Γ p rfl _
  exact ⟨.ret r, s, Runs.leaf r, h⟩
theorem sf_yield {v g l} {k : Resume → Sem PySem.Fin} (hfs : splitAtGen fs = none) (h : ∀ p, Φ (.susp v g l k c p fs) s) : SegF M A Φ c (.yield v g l k) fs s := by
  rintro Γ p rfl _
  exact ⟨_, s, Runs.yield' fs hfs, h p⟩
theorem sf_execs_nil (h : SegF M A Φ c (K .next) fs s) : SegF M A Φ c ((execs [] env).wrap K J gd lv) fs s := h
theorem sf_execs_cons {st : Stmt} {rest : List Stmt} (h : SegF M A Φ c ((exec st env).wrap (fun f => match f with | .next => (execs rest env).wrap K J gd lv | f => K f) J gd lv) fs s) : SegF M A Φ c ((execs (st :: rest) env).wrap K J gd lv) fs s := by
  rw [execs_cons_wrap]
  exact h
/-- yield e: it sleeps -/
theorem sf_Expr_Yield {e : Expr} {ypos pos : Pos} (hfs : splitAtGen fs = none)
    (h : wpAny M (A.over c fs) (eval e env) (fun v s' => ∀ (g : Bool) (l : List Value) (k : Resume → Sem PySem.Fin) p, g = gd false → (∀ s'', SegF M A Φ c (K .next) fs s'' → SegF M A Φ c (k (.send .none)) fs s'') → (∀ Ψ s'', SegF M A Ψ c (K .next) fs s'' → SegF M A Ψ c (k (.send .none)) fs s'') → Φ (.susp v g l k c p fs) s')
      (fun x s' => SegF M A Φ c (J x) fs s') s) (hco : env.scope.isCoroutine = false) (hi : interactive env = false) :
    SegF M A Φ c ((exec (.Expr (.Yield (some e) ypos) pos) env).wrap K J gd lv) fs s := by
  rw [exec_Expr env _ pos hi rfl]
  show SegF M A Φ c (.at pos fun _ => ((eval e env >>= fun v => (standAt ypos >>= fun _ => yieldOut env v)) >>= fun x => dropValue (.Yield (some e) ypos) pos x).wrap K J gd lv) fs s
  have hy : ∀ v, yieldOut env v = yieldValue v := fun v => by simp only [yieldOut, hco, Bool.false_eq_true, if_false]
  simp only [hy]
  refine sf_at ?_
  rw [Sem.bind_eq_wrap', Sem.bind_eq_wrap', Sem.wrap_wrap, Sem.wrap_wrap]
  refine sf_wrap (wpAny_mono h (fun v s' h' => ?_) fun _ _ x => x)
  refine sf_at (sf_yield hfs fun p => h' _ _ _ p rfl (fun s'' hx => hx) fun Ψ s'' hx => hx)
/-- what a loop's call does with what comes back -/
abbrev backFl (env : Env) (r : Result) : Sem Flow := (match r with | .ok f => (.pure f : Sem Flow) | .error e => .raise e).onRaise (cameBack env)
theorem sf_For {target iter : Expr} {body : List Stmt} {pos : Pos} (hs : ∀ x, foldedSetIterable iter env x = pure x)
    (h : wpAny M (A.over c fs) (eval iter env) (fun v s1 => wpAny M (A.over c fs) (pyIter v) (fun it s2 => ∀ p, SegF M A Φ (.forLoop target it body [] env) (M.den (.forLoop target it body [] env))
      (.ret (fun r => (backFl env r).wrap K J gd lv) none (gd false) (lv []) c p [] :: fs) s2) (fun x s' => SegF M A Φ c (J x) fs s') s1) (fun x s' => SegF M A Φ c (J x) fs s') s) :
    SegF M A Φ c ((exec (.For target iter body [] pos) env).wrap K J gd lv) fs s := by
  rw [exec_For]
  refine sf_bind (wpAny_standAt ?_)
  refine sf_bind (wpAny_mono h (fun v s1 h1 => ?_) fun _ _ x => x)
  refine sf_bind (wpAny_of_eq (hs v) ?_)
  refine sf_bind (wpAny_standAt ?_)
  refine sf_bind (wpAny_holding (wpAny_mono h1 (fun it s2 h2 => ?_) fun _ _ x => x))
  exact sf_call h2
end
section
variable {prog : Program} {w : World} {A : Around} {Φ : End → Shared → Prop} {fs : List Frame} {s : Shared} {env : Env}
theorem sf_func {body : List Stmt}
    (h : SegF (model prog w) A Φ (.func body env) ((execs body env).wrap (fun f => .pure (.done (.ret (match f with | .ret v => v | _ => .none)))) (fun e => (leaving env e).wrap (fun _ => .raise e) .raise id id) id id) fs s) :
    SegF (model prog w) A Φ (.func body env) ((model prog w).den (.func body env)) fs s := by
  show SegF _ A Φ (.func body env) (.point [] fun _ => ((execs body env).onRaise (leaving env)) >>= _) fs s
  refine sf_point ?_
  rw [Sem.onRaise_eq_wrap, Sem.bind_eq_wrap', Sem.wrap_wrap]
  rw [Sem.wrap_congr (execs body env) _ _ (K' := fun f => .pure (.done (.ret (match f with | .ret v => v | _ => .none))))
    (H' := fun e => (leaving env e).wrap (fun _ => .raise e) .raise id id) (fun f => by cases f <;> rfl)
    (fun e => by rw [Sem.bind_eq_wrap, Sem.wrap_wrap]; rfl)]
  exact h
/-- a turn of the loop -/
theorem sf_forLoop {x : Str} {px : Pos} {it : Value} {body : List Stmt}
    (h : wpAny (model prog w) (A.over (.forLoop (.Name x px) it body [] env) fs) (pyNext it) (fun r s1 => match r with
        | none => SegF (model prog w) A Φ (.forLoop (.Name x px) it body [] env) (.pure (.again (.block [] env))) fs s1
        | some v => wpAny (model prog w) (A.over (.forLoop (.Name x px) it body [] env) fs) (assign (.Name x px) env v) (fun _ s2 =>
          SegF (model prog w) A Φ (.forLoop (.Name x px) it body [] env) ((execs body env).wrap (fun f => match f with
            | .next | .cont => .pure (.again (.forLoop (.Name x px) it body [] env))
            | .brk => .pure (.done .next)
            | .ret v => .pure (.done (.ret v))) (fun e => (do noteFrame e env; theTreesLotGoes e : Sem Unit).wrap (fun _ => .raise e) .raise id id) id id) fs s2) (fun _ _ => False) s1) (fun _ _ => False) s) :
    SegF (model prog w) A Φ (.forLoop (.Name x px) it body [] env) ((model prog w).den (.forLoop (.Name x px) it body [] env)) fs s := by
  show SegF _ A Φ _ ((forTurn (.Name x px) it body [] env).onRaise (fun x => do noteFrame x env; theTreesLotGoes x)) fs s
  unfold forTurn
  rw [Sem.onRaise_eq_wrap]
  refine sf_bind (wpAny_standAt ?_)
  refine sf_bind (wpAny_onRaise (wpAny_mono h (fun r s1 h1 => ?_) fun _ _ x => x.elim))
  cases r with
  | none => exact h1
  | some v =>
    refine sf_bind (wpAny_of_eq (rfl : letOwnedTupleGo (.Name x px) it v = pure ()) ?_)
    refine sf_bind (wpAny_mono h1 (fun _ s2 h2 => ?_) fun _ _ x => x.elim)
    rw [Sem.bind_eq_wrap', Sem.wrap_wrap]
    rw [Sem.wrap_congr (execs body env) _ _ (K' := fun f => match f with
            | .next | .cont => .pure (.again (.forLoop (.Name x px) it body [] env))
            | .brk => .pure (.done .next)
            | .ret v => .pure (.done (.ret v))) (H' := (fun e => (do noteFrame e env; theTreesLotGoes e : Sem Unit).wrap (fun _ => .raise e) .raise id id))
        (fun f => by cases f <;> rfl)
        (fun e => by first | exact Sem.bind_eq_wrap _ _ | (show (do noteFrame e env; theTreesLotGoes e : Sem Unit).bind (fun _ => .raise e) = _; rw [Sem.bind_eq_wrap]))]
    exact h2
theorem sf_loopEnd {it : Value} {target : Expr} {body : List Stmt} {k : Result → Sem PySem.Fin} {hd : Option Value} {g : Bool} {l kp : List Value} {c : Code} {p : Pos}
    (h : SegF (model prog w) A Φ c (k (.ok .next)) fs s) : SegF (model prog w) A Φ (.forLoop target it body [] env) (.pure (.again (.block [] env))) (.ret k hd g l c p kp :: fs) s := by
  refine sf_again rfl ?_
  show SegF _ A Φ _ (leafOf (.ok .next)) _ s
  exact sf_leaf (.ok .next) h
end
/-- the objects that a sleeping loop lives in: its list, the list's iterator, the frame -/
structure Priv (L T it : Addr) (items : Array Value) (i : Nat) (h : Heap) : Prop where
  iter : h.IsListIter it T i
  list : h.IsList T items
  ns : ∃ m, h.Ns L m
/-- a step that writes the frame and the iterator alone -/
def Step (L it : Addr) (s s' : Shared) : Prop := ∃ h' tk, s' = { s with heap := h', toks := tk } ∧ ∀ b o, b ≠ L → b ≠ it → s.heap.get? b = some o → h'.get? b = some o
/-- a generator that sleeps behind its i-th item, m are left: what its next turns give -/
def Sleeps (M : Model) (A : Around) (L T it : Addr) (items : Array Value) : Nat → Nat → GenState → Prop
  | 0, i, gs => ∃ k l c p fs cl, gs = .suspended k l c p fs cl ∧ ∀ s, Priv L T it items i s.heap → SegF M A (fun e s' => e = .ret (.ok (.ret .none)) ∧ Step L it s s') c (k (.send .none)) fs s
  | m + 1, i, gs => ∃ k l c p fs cl, gs = .suspended k l c p fs cl ∧ ∀ s, Priv L T it items i s.heap → SegF M A (fun e s' => ∃ v g' l' k' c' p' fs', e = .susp v g' l' k' c' p' fs' ∧ e.quiet = true ∧ items[i]? = some v ∧ Step L it s s' ∧ Priv L T it items (i + 1) s'.heap ∧ Sleeps M A L T it items m (i + 1) e.genState) c (k (.send .none)) fs s
section
variable {prog : Program} {w : World} {A : Around} {fsX : List Frame} {env : Env}
/-- one turn of `for x in xs: yield x`, from the loop's code on -/
theorem sf_loopTurn {Φ : End → Shared → Prop} {x : Str} {px px2 yp yq : Pos} {T it : Addr} {items : Array Value} {i : Nat} {s : Shared} (hA : (A.over (.forLoop (.Name x px) (.ref it) [.Expr (.Yield (some (.Name x px2)) yp) yq] [] env) fsX).handled = none)
    (hk : env.scope.kind = .function) (hx : env.kindOf x = some .local) (hd : (x == ("__debug__" : Str)) = false) (hco : env.scope.isCoroutine = false) (hi : interactive env = false) (hTi : T ≠ it) (hLi : env.locals ≠ it) (hLT : env.locals ≠ T)
    (hfs : splitAtGen fsX = none) (hfg : fsX.any Frame.guarded = false) (pr : Priv env.locals T it items i s.heap) (hle : i ≤ items.size)
    (hE : ∀ s', i = items.size → Step env.locals it s s' → SegF (model prog w) A Φ (.forLoop (.Name x px) (.ref it) [.Expr (.Yield (some (.Name x px2)) yp) yq] [] env) (.pure (.again (.block [] env))) fsX s')
    (hY : ∀ v s' l (k : Resume → Sem PySem.Fin) p, items[i]? = some v → Step env.locals it s s' → Priv env.locals T it items (i + 1) s'.heap →
      (∀ Ψ s'', SegF (model prog w) A Ψ (.forLoop (.Name x px) (.ref it) [.Expr (.Yield (some (.Name x px2)) yp) yq] [] env) ((model prog w).den (.forLoop (.Name x px) (.ref it) [.Expr (.Yield (some (.Name x px2)) yp) yq] [] env)) fsX s'' →
        SegF (model prog w) A Ψ (.forLoop (.Name x px) (.ref it) [.Expr (.Yield (some (.Name x px2)) yp) yq] [] env) (k (.send .none)) fsX s'') → Φ (.susp v false l k (.forLoop (.Name x px) (.ref it) [.Expr (.Yield (some (.Name x px2)) yp) yq] [] env) p fsX) s') :
    SegF (model prog w) A Φ (.forLoop (.Name x px) (.ref it) [.Expr (.Yield (some (.Name x px2)) yp) yq] [] env) ((model prog w).den (.forLoop (.Name x px) (.ref it) [.Expr (.Yield (some (.Name x px2)) yp) yq] [] env)) fsX s := by
  have W := Walks.list (prog := prog) (w := w) hA it T hTi items
  have hp : (env.scope.kind == .class || (env.scope.kind == .module && env.locals != env.globals)) = false := by rw [hk]; rfl
  by_cases hlt : i < items.size
  · refine sf_forLoop (W.item i s _ _ hlt ⟨pr.iter, pr.list⟩ fun v h1 tk1 hv st1 hk1 => ?_)
    obtain ⟨mm, hn⟩ := pr.ns
    have hn1 : h1.Ns env.locals mm := hn.at' fun o e => hk1 _ o (by simpa using hLi) e
    refine wpAny_assign_Name (wpAny_storeName_local hx hn1 (fun h2 hn2 hs2 => ?_) hp)
    have up : ∀ b o, b ≠ env.locals → b ≠ it → s.heap.get? b = some o → h2.get? b = some o := fun b o hbL hbi e => (hs2.2 b hbL).trans (hk1 b o (by simpa using hbi) e)
    have P2 : Priv env.locals T it items (i + 1) h2 := ⟨st1.1.at fun o e => (hs2.2 it (Ne.symm hLi)).trans e, st1.2.at fun o e => (hs2.2 T (Ne.symm hLT)).trans e, ⟨_, hn2⟩⟩
    refine sf_execs_cons (sf_Expr_Yield hfs (wpAny_Name (wpAny_loadName_local hk hx hn2 (if_pos rfl) fun g l k p hg _ hkap => ?_) hd) hco hi)
    subst hg
    refine hY v _ l k p hv ⟨h2, tk1 + 1, rfl, up⟩ P2 fun Ψ s'' h3 => hkap Ψ s'' ?_
    exact sf_execs_nil (sf_again rfl h3)
  · have hin : i = items.size := by omega
    subst hin
    refine sf_forLoop (W.done s _ _ ⟨pr.iter, pr.list⟩ fun h' tk hk' => ?_)
    exact hE _ rfl ⟨h', tk, rfl, fun b o _ h2 e => hk' b o (by simpa using h2) e⟩
theorem quiet_of {v l} {k : Resume → Sem PySem.Fin} {c p} {fs : List Frame} (hfg : fs.any Frame.guarded = false) : (End.susp v false l k c p fs).quiet = true := by
  show (!(false || fs.any Frame.guarded)) = true
  rw [hfg]
  rfl
/-- behind a yield the loop sleeps on -/
theorem sleeps_loop {x : Str} {px px2 yp yq : Pos} {T it : Addr} {items : Array Value} (hA : (A.over (.forLoop (.Name x px) (.ref it) [.Expr (.Yield (some (.Name x px2)) yp) yq] [] env) fsX).handled = none)
    (hk : env.scope.kind = .function) (hx : env.kindOf x = some .local) (hd : (x == ("__debug__" : Str)) = false) (hco : env.scope.isCoroutine = false) (hi : interactive env = false) (hTi : T ≠ it) (hLi : env.locals ≠ it) (hLT : env.locals ≠ T)
    (hfs : splitAtGen fsX = none) (hfg : fsX.any Frame.guarded = false)
    (hE : ∀ (Φ : End → Shared → Prop) s', Φ (.ret (.ok (.ret .none))) s' → SegF (model prog w) A Φ (.forLoop (.Name x px) (.ref it) [.Expr (.Yield (some (.Name x px2)) yp) yq] [] env) (.pure (.again (.block [] env))) fsX s') :
    ∀ m i gs, i + m = items.size → (∃ (k : Resume → Sem PySem.Fin) (l : List Value) (p : Pos) (cl : Bool), gs = .suspended k l (.forLoop (.Name x px) (.ref it) [.Expr (.Yield (some (.Name x px2)) yp) yq] [] env) p fsX cl ∧
      ∀ Ψ s'', SegF (model prog w) A Ψ (.forLoop (.Name x px) (.ref it) [.Expr (.Yield (some (.Name x px2)) yp) yq] [] env) ((model prog w).den (.forLoop (.Name x px) (.ref it) [.Expr (.Yield (some (.Name x px2)) yp) yq] [] env)) fsX s'' →
        SegF (model prog w) A Ψ (.forLoop (.Name x px) (.ref it) [.Expr (.Yield (some (.Name x px2)) yp) yq] [] env) (k (.send .none)) fsX s'') → Sleeps (model prog w) A env.locals T it items m i gs := by
  intro m
  induction m with
  | zero =>
    rintro i gs him ⟨k, l, p, cl, rfl, hkap⟩
    refine ⟨k, l, _, p, fsX, cl, rfl, fun s pr => hkap _ s (sf_loopTurn hA hk hx hd hco hi hTi hLi hLT hfs hfg pr (by omega) (fun s' _ hst => hE _ s' ⟨rfl, hst⟩) fun v s' l k p hv _ _ _ => ?_)⟩
    have := (Array.getElem?_eq_some_iff.mp hv).1
    omega
  | succ m ih =>
    rintro i gs him ⟨k, l, p, cl, rfl, hkap⟩
    refine ⟨k, l, _, p, fsX, cl, rfl, fun s pr => hkap _ s (sf_loopTurn hA hk hx hd hco hi hTi hLi hLT hfs hfg pr (by omega) (fun s' e _ => by omega) fun v s' l2 k2 p2 hv hst pr2 hkap2 => ?_)⟩
    exact ⟨v, false, l2, k2, _, p2, fsX, rfl, quiet_of hfg, hv, hst, pr2, ih (i + 1) _ (by omega) ⟨k2, l2, p2, _, rfl, hkap2⟩⟩
end
end Gz

set_option Elab.async false
set_option linter.all false
set_option maxRecDepth 100000
set_option maxHeartbeats 2000000
/-! D44: next(g) by the segment's end; a generator def `st; for x in e: yield x` that is called. -/
namespace Gz
open PySem PySem.Spec PyProof.Rows L2 GenW
open Sem (wp)
/-- where a generator stands, and what its next segment ends with -/
def Runs1 (M : Model) (A : Around) (Φ : End → Shared → Prop) (gs : GenState) (s : Shared) : Prop :=
  (∃ c, gs = .fresh c ∧ SegF M A Φ c (M.den c) [] s) ∨ ∃ k l c p fs cl, gs = .suspended k l c p fs cl ∧ SegF M A Φ c (k (.send .none)) fs s
section
variable {M : Model}
theorem resume_F {A : Around} {Φ : End → Shared → Prop} {E : Value → Shared → Prop} {s : Shared} {g : Nat} {gs : GenState} {l : List Value} {α : Type} {k : GenResult → Sem α} {Q : α → Shared → Prop} (hg : s.gens[g]? = some gs)
    (hgo : Runs1 M A Φ gs (s.setGen g .running)) (h : ∀ e s₁, Φ e s₁ → e.quiet = true ∧ wpAny M A (k e.result) Q E (s₁.setGen g e.genState)) : wpAny M A (.resume g (.send .none) l k) Q E s := by
  intro Γ p hΓ
  rw [Sem.wp_resume]
  have hB : ∀ c, (Γ.wake c p).Woken A := fun c => hΓ.wake c p
  rcases hgo with ⟨c, rfl, hs⟩ | ⟨k₀, l₀, c₀, p₀, fs₀, cl, rfl, hs⟩
  · obtain ⟨e₁, s₁, hr, he⟩ := hs (Γ.wake c p) p rfl (hB c)
    obtain ⟨q1, q2⟩ := h e₁ s₁ he
    exact ⟨_, _, by unfold Wakes; rw [hg]; exact ⟨e₁, s₁, hr, q1, rfl, rfl⟩, q2 Γ p hΓ⟩
  · obtain ⟨e₁, s₁, hr, he⟩ := hs (Γ.wake c₀ p) p₀ rfl (hB c₀)
    obtain ⟨q1, q2⟩ := h e₁ s₁ he
    exact ⟨_, _, by unfold Wakes; rw [hg]; exact ⟨e₁, s₁, hr, q1, rfl, rfl⟩, q2 Γ p hΓ⟩
end
section
variable {P : Program} {w : World} {A : Around} {E : Value → Shared → Prop} {s : Shared}
/-- next(g) -/
theorem next_F {a : Addr} {g : Nat} {gs : GenState} {Φ : End → Shared → Prop} {Q : Option Value → Shared → Prop} (hh : A.handled = none) (hl : s.heap.NoLimit) (hroom : A.depth < recursionLimit) (hg : s.heap.IsGen a g) (hgs : s.gens[g]? = some gs)
    (hgo : Runs1 (model P w) A.in1 Φ gs (s.setGen g .running)) (hR : ∀ x s₁, Φ (.ret x) s₁ → x = .ok (.ret .none) ∧ ∀ h', (∀ b o, s₁.heap.get? b = some o → h'.get? b = some o) → Q none { s₁.setGen g .finished with heap := h' })
    (hY : ∀ v g' l k c p fs s₁, Φ (.susp v g' l k c p fs) s₁ → (End.susp v g' l k c p fs).quiet = true ∧ Q (some v) (s₁.setGen g (End.susp v g' l k c p fs).genState)) : wpAny (model P w) A (pyNext (.ref a)) Q E s := by
  unfold pyNext
  refine wpAny_bind (wpAny_attempt (wpAny_callSpecial?_slot (name := Str.ofString "__next__") hg.typeIs slot_gen_next
    (wpAny_call_entry slot_gen_next hg.typeIs entry_gen_next ?_ (args_gen_next _))))
  show wpAny _ A.in1 (Builtin.Generator.genWake (.ref a) (.send .none)) _ _ s
  unfold Builtin.Generator.genWake
  refine wpAny_bind (wpAny_holding (wpAny_genNumber hg (wpAny_bind (wpAny_genState hgs ?_))))
  cases gs with
  | running => rcases hgo with ⟨c, e, _⟩ | ⟨_, _, _, _, _, _, e, _⟩ <;> cases e
  | finished => rcases hgo with ⟨c, e, _⟩ | ⟨_, _, _, _, _, _, e, _⟩ <;> cases e
  | _ =>
    refine wpAny_bind (wpAny_roomToWake hl hroom ?_)
    show wpAny _ A.in1 (.resume g (.send .none) [] _) _ _ s
    refine resume_F hgs hgo fun e s₁ he => ?_
    cases e with
    | ret x =>
      obtain ⟨rfl, hp⟩ := hR x s₁ he
      refine ⟨rfl, ?_⟩
      show wpAny _ A.in1 (newExc (.type "StopIteration") [] >>= _) _ _ _
      refine wpAny_bind ?_
      simp only [newExc, newTuple]
      refine wpAny_bind (wpAny_newObj_type ?_ (by size_fits))
      refine wpAny_bind (m := firstArgMember _ _) (wpAny_of_eq (a := Value.none) (by first | rfl | (simp only [firstArgMember]; rfl)) ?_)
      refine wpAny_newObj_type ?_ (by size_fits)
      simp only [raiseNew]
      refine wpAny_bind (wpAny_bind (wpAny_handled ?_))
      first | rw [show A.in1.handled = none from hh] | rw [hh]
      refine wpAny_throw ?_
      refine wpAny_bind (wpAny_isInstance (T := "StopIteration") (b := true) ⟨_, Heap.get?_push_size _ rfl, rfl⟩ isSubtype_stop ?_)
      exact wpAny_pure (hp _ fun b o hb => Heap.get?_push_of_some _ (Heap.get?_push_of_some _ hb))
    | susp v g' l k c p fs =>
      obtain ⟨q1, q2⟩ := hY v g' l k c p fs s₁ he
      exact ⟨q1, wpAny_pure ⟨v, rfl, wpAny_pure q2⟩⟩
end
end Gz

set_option Elab.async false
set_option linter.all false
set_option maxRecDepth 100000
set_option maxHeartbeats 2000000
/-! D45: a generator def `st; for x in e: yield x` that is called: what its first turn gives. -/
namespace Gz
open PySem PySem.Spec PyProof.Rows L2 GenW
/-- behind the first segment, as behind a call that began at s -/
structure FF (P : Program) (w : World) (outer : List Env) (H : Hp) (s : Shared) (a : Addr) (g : Nat) (L : Addr) (ex : List (Addr × Obj)) (Q1 : Hp → Prop) (H' : Hp) (s1 : Shared) : Prop where
  os : s1.os = s.os
  bare : AllBare s1.gens
  un : Un (frs outer) [] H H' s.heap s1.heap
  hok : HOk P w H' s1.heap
  nL : H' L = none
  na : H' a = none
  isg : s1.heap.IsGen a g
  lim : s1.heap.NoLimit
  pin : ∀ p ∈ ex, s1.heap.get? p.1 = some p.2 ∧ H' p.1 = none
  q : Q1 H'
/-- the first segment's end: all is out, or the first item is and the loop sleeps -/
def FEnd (P : Program) (w : World) (K : PySem.W.Frag) (A : Around) (outer : List Env) (H : Hp) (s : Shared) (a : Addr) (g : Nat) (L : Addr) (ex : List (Addr × Obj)) (Q1 : Addr → List V → Hp → Prop) (e : End) (s1 : Shared) : Prop :=
  (e = .ret (.ok (.ret .none)) ∧ ∃ T H', FF P w outer H s a g L ex (Q1 T []) H' s1) ∨
  ∃ v g' l k c p fs T it H', ∃ (out : List V) (items : List Value), e = .susp v g' l k c p fs ∧ e.quiet = true ∧ FF P w outer H s a g L ex (Q1 T out) H' s1 ∧ SqL K H' T out ∧ H' it = none ∧ Vals out items ∧ items[0]? = some v ∧ T ≠ it ∧ L ≠ it ∧ L ≠ T ∧ a ≠ it ∧ s.heap.objs.size ≤ it ∧ (∀ p ∈ ex, p.1 ≠ it ∧ p.1 ≠ T) ∧
    Priv L T it items.toArray 1 s1.heap ∧ Sleeps (model P w) A L T it items.toArray (items.length - 1) 1 e.genState
/-- a generator that was made by a call -/
def GMk (P : Program) (w : World) (K : PySem.W.Frag) (k : Nat) (outer : List Env) (H : Hp) (s : Shared) (Q1 : Addr → List V → Hp → Prop) (u : Value) (s' : Shared) : Prop :=
  ∃ (a : Addr) (g : Nat) (c : Code) (L : Addr), u = .ref a ∧ s.heap.objs.size ≤ a ∧ a < s'.heap.objs.size ∧ s.heap.objs.size ≤ L ∧ L < s'.heap.objs.size ∧ L ≠ a ∧ s'.heap.IsGen a g ∧ s'.gens[g]? = some (.fresh c) ∧ s'.os = s.os ∧ AllBare s'.gens ∧ s'.heap.NoLimit ∧ (∀ b o, s.heap.get? b = some o → s'.heap.get? b = some o) ∧
    ∀ (A : Around) (ex : List (Addr × Obj)) (s2 : Shared), Room k A → A.frames = some outer → (∀ b o, s'.heap.get? b = some o → s2.heap.get? b = some o) → s2.os = s.os → AllBare s2.gens → (∀ p ∈ ex, s'.heap.objs.size ≤ p.1 ∧ s2.heap.get? p.1 = some p.2 ∧ ∀ v, p.2.data ≠ .cell v) → SegF (model P w) A (FEnd P w K A outer H s a g L ex Q1) c ((model P w).den c) [] s2
/-- arguments, heap, what is handed out, what is true of the heap behind the first segment -/
abbrev SpO := List V → Hp → (Addr → List V → Hp → Prop) → Prop
structure GOk (P : Program) (w : World) (K : PySem.W.Frag) (mg : Str → Option Value) (base : Heap) (k : Nat) (f : Addr) (fd : FuncData) (ps : List Str) (sp : SpO) : Prop where
  len : ∀ vs H Q, sp vs H Q → vs.length = ps.length
  run : ∀ (A : Around) (outer : List Env) (s : Shared) (H : Hp) (args : Args) (us : List Value) (vs : List V) (Q1 : Addr → List V → Hp → Prop), Room k A → Env0 P w K mg base A outer s H → BindsTo s fd args (ps.zip us) → Vals vs us → sp vs H Q1 →
    codeAny (model P w) A (.call (.ref f) args) (fun r s' => match r with | .ok (.ret u) => GMk P w K k outer H s Q1 u s' | _ => False) s
theorem ff_step {P : Program} {w : World} {K : PySem.W.Frag} {mg : Str → Option Value} {base : Heap} {N : List Str} {qual : Str} {scope : Scope} {f : Addr} {cd : Value} {A : Around} {outer : List Env} {s s4 s1 : Shared} {H H' : Hp} {E : XK} {a : Addr} {go : Obj} {ex : List (Addr × Obj)} {g : Nat} {σ : L2.St} {Q1 : Hp → Prop}
    (I : Inv (gcxOf P w K mg base N qual scope f cd A outer s H E ((a, go) :: ex)) [] σ H' s4) (hgen : ∀ h : Heap, h.get? a = some go → h.IsGen a g) (ho : s1.os = s4.os) (hg : s1.gens = s4.gens)
    (k : ∀ b o, b ≠ s.heap.objs.size → s4.heap.get? b = some o → s1.heap.get? b = some o) (q : Q1 H') : FF P w outer H s a g s.heap.objs.size ex Q1 H' s1 := by
  obtain ⟨p1, p2, p3, p4, _⟩ := I.pin (a, go) (List.mem_append_left _ List.mem_cons_self)
  have neL : ∀ b o, s.heap.get? b = some o → b ≠ s.heap.objs.size := fun b o e => Nat.ne_of_lt (Heap.lt_size e)
  have B : Un (frs outer) [] H H' s.heap s4.heap := I.base
  have hL : H' s.heap.objs.size = none := I.free
  refine ⟨ho.trans I.os, hg ▸ I.bare, ⟨fun b o e n hb hx => k b o (neL b o e) (B.keep b o e n hb hx), fun b o e n hb hx => ?_, B.free, fun b o e hx => ?_, B.tups, B.frzs, B.tbls⟩, fun b u e => ?_, hL, p2, hgen _ (k a go p3 p1), ?_, fun p hp => ?_, q⟩
  · obtain ⟨sl, e1⟩ := B.slot b o e n hb hx
    exact ⟨sl, k b _ (neL b o e) e1⟩
  · obtain ⟨o', e1⟩ := B.there b o e hx
    exact ⟨o', k b o' (neL b o e) e1⟩
  · have nit : ∀ b u, H' b = some u → b ≠ s.heap.objs.size := fun b u e z => by rw [z, hL] at e; cases e
    refine (I.hok b u e).stay (fun c v hc y => k c v ?_ y) (fun _ q => q) fun _ _ q => q
    rcases hc with z | z
    · rw [z]; exact nit b u e
    · exact nit c _ z
  · obtain ⟨mc, hns, hnn⟩ := I.nolimit
    refine ⟨mc, hns.at' fun o e => k _ o (fun z => ?_) e, hnn⟩
    obtain ⟨_, hb, _⟩ := I.ok.mod.nolimit
    have h1 := hb.lt
    have h2 : base.objs.size ≤ s.heap.objs.size := I.ok.bsz
    have h3 : cStatics < base.objs.size := h1
    rw [z] at h3
    exact absurd (Nat.lt_of_lt_of_le h3 h2) (Nat.lt_irrefl _)
  · obtain ⟨y1, y2, y3, _, _⟩ := I.pin p (List.mem_append_left _ (List.mem_cons_of_mem _ hp))
    exact ⟨k _ _ y3 y1, y2⟩
theorem cx_false {P : Program} {w : World} {outer : List Env} {H : Hp} {s s' : Shared} {e : Value} (h : CX P w outer H s (fun _ _ _ => False) e s') : False := by
  obtain ⟨_, _, _, _, _, _, _, _, _, _, _, _, z⟩ := h
  exact z
theorem gok_of {P : Program} {w : World} {K : PySem.W.Frag} {mg : Str → Option Value} {base : Heap} {k : Nat} {f : Addr} {name qual : Str} {params : Arguments} {scope : Scope} {dV kV doc pm cdv ct oc : Value} {an od : Option Addr}
    {osl : Array (Option Value)} {N ps : List Str} {sp : SpO} {st0 : Stmt} {e : Expr} {x : Str} {px px2 yp yq fp : Pos}
    (lk : K.lookup f = some ⟨oc, od, .func (PySem.W.fnOf name qual params [st0, .For (.Name x px) e [.Expr (.Yield (some (.Name x px2)) yp) yq] [] fp] scope dV kV doc pm an cdv ct), osl⟩) (hcd : PySem.W.codeIn K cdv qual = true) (S : GScope N ps scope)
    (hx : scope.names.lookup x = some .local) (hd : (x == ("__debug__" : Str)) = false) (len : ∀ vs H Q, sp vs H Q → vs.length = ps.length) (hs : ∀ env v, foldedSetIterable e env v = pure v)
    (hbody : ∀ (A : Around) (outer : List Env) (s : Shared) (H : Hp) (vs : List V) (Q1 : Addr → List V → Hp → Prop) (pn : List (Addr × Obj)), Room k (A.deeper (envOfC qual scope s.heap.objs.size f cdv)) → sp vs H Q1 →
      ∃ tS tE, PS (gcxOf P w K mg base N qual scope f cdv A outer s H (fun _ _ _ => False) pn) st0 tS ∧ PE (gcxOf P w K mg base N qual scope f cdv A outer s H (fun _ _ _ => False) pn) e tE ∧
        tS { nx := fun σ H1 => tE σ H1 fun v H2 => ∃ T out, v = .ref T ∧ SqL K H2 T out ∧ Q1 T out H2, rt := fun _ _ => False } (start N vs) H) :
    GOk P w K mg base (k + 1) f (PySem.W.fnOf name qual params [st0, .For (.Name x px) e [.Expr (.Yield (some (.Name x px2)) yp) yq] [] fp] scope dV kV doc pm an cdv ct) ps sp := by
  refine ⟨len, fun A outer s H args us vs Q1 hr e0 hb r hsp => ?_⟩
  have hl := len _ _ _ hsp
  have KX : K.In s.heap := e0.mod.kin.keeps fun b o e => (e0.bs b o e).1
  have lim : s.heap.NoLimit := e0.mod.nolimit.keeps fun b o e => (e0.bs b o e).1
  have hkind : ∀ y ∈ ps.zip us, scope.names.lookup y.1 = some .local ∨ (scope.names.lookup y.1 = some .cell ∧ ((cellsFrom (s.heap.objs.size + 1) scope.names []).lookup y.1).isSome = true) := fun ⟨n, v⟩ hy => by
    rcases S.par n (List.of_mem_zip hy).1 with q | q
    · exact .inl q
    · exact .inr ⟨q, PySem.W.cellsFrom_some _ _ _ (.inl q)⟩
  refine codeAny_call_generator hr.depth (KX _ _ lk) rfl S.co S.gen rfl (PySem.W.codeRec_of KX hcd) (hb _ _ _ _ ?_)
  refine wpAny_newFunctionEnv_cells S.kind hkind fun env he s1 x1 => ?_
  subst he
  have lim1 : s1.heap.NoLimit := lim.keeps x1.toInCall.keep
  refine ⟨lim1, ?_⟩
  obtain ⟨h1, tk, es1, hk1⟩ := x1.done
  have os1 : s1.os = s.os := by rw [es1]
  have gen1 : s1.gens = s.gens := by rw [es1]
  have lt1 : s.heap.objs.size < s1.heap.objs.size := x1.toInCall.ns.lt
  have kp1 : ∀ b o, s.heap.get? b = some o → s1.heap.get? b = some o := x1.toInCall.keep
  have main : ∀ (go : Obj) (nm qn : Value) (tk2 : Nat), go.cls = .type "generator" → go.data = .fields #[.int s1.gens.size 0, nm, qn] → go.slots = #[] → (∀ h : Heap, (h.push go).get? h.objs.size = some go) →
      GMk P w K (k + 1) outer H s Q1 (.ref s1.heap.objs.size) { s1 with gens := s1.gens.push (.fresh (.func [st0, .For (.Name x px) e [.Expr (.Yield (some (.Name x px2)) yp) yq] [] fp] (envOfC qual scope s.heap.objs.size f cdv))), toks := tk2, heap := s1.heap.push go } := by
    intro go nm qn tk2 hgc hgd0 hgs hgp
    have hgen : ∀ h : Heap, h.get? s1.heap.objs.size = some go → h.IsGen s1.heap.objs.size s1.gens.size := fun h e => ⟨go, nm, qn, e, hgc, hgd0, hgs⟩
    have hpushed : (s1.heap.push go).get? s1.heap.objs.size = some go := hgp _
    have szp : (s1.heap.push go).objs.size = s1.heap.objs.size + 1 := Heap.size_push ..
    refine ⟨s1.heap.objs.size, s1.gens.size, _, s.heap.objs.size, rfl, Nat.le_of_lt lt1, ?_, Nat.le_refl _, ?_, Nat.ne_of_lt lt1, hgen _ hpushed, Array.getElem?_push_size .., os1, ?_, lim1.keeps fun b o e => Heap.get?_push_of_some _ e, fun b o e => Heap.get?_push_of_some _ (kp1 b o e), ?_⟩
    · show _ < (s1.heap.push _).objs.size
      rw [szp]; exact Nat.lt_succ_self _
    · show _ < (s1.heap.push _).objs.size
      rw [szp]; omega
    · exact AllBare.push (by rw [gen1]; exact e0.bare) rfl
    intro Aw ex s2 hrw hfr hk2 hos hba hex
    have e0w : Env0 P w K mg base Aw outer s H := ⟨hfr, e0.mod, e0.bs, e0.bsz, e0.funs, e0.frf, e0.hok, e0.bare⟩
    obtain ⟨tS, tE, hS, hE, hq⟩ := hbody Aw outer s H vs Q1 ((s1.heap.objs.size, go) :: ex) (hrw.deeper _) hsp
    have I1 : Inv (gcxOf P w K mg base N qual scope f cdv Aw outer s H (fun _ _ _ => False) []) [] (start N vs) H s1 := inv_startG S hrw.hd e0w hl r x1
    have kp2 : ∀ b o, s1.heap.get? b = some o → s2.heap.get? b = some o := fun b o e => hk2 b o (Heap.get?_push_of_some _ e)
    have I2 : Inv (gcxOf P w K mg base N qual scope f cdv Aw outer s H (fun _ _ _ => False) []) [] (start N vs) H s2 :=
      I1.call' (ch := []) (hos.trans os1.symm) (Un.kept kp2) (I1.hok.kept kp2) hba fun b z => by simp at z
    have hea : s2.heap.get? s1.heap.objs.size = some go := hk2 s1.heap.objs.size go hpushed
    have hgd : ∀ v, go.data ≠ .cell v := fun v q => by rw [hgd0] at q; cases q
    have I3 : Inv (gcxOf P w K mg base N qual scope f cdv Aw outer s H (fun _ _ _ => False) ((s1.heap.objs.size, go) :: ex)) [] (start N vs) H s2 := Inv.pinnedG I2 fun p hp => by
      rw [List.append_nil] at hp
      rcases List.mem_cons.mp hp with e | hp
      · rw [e]
        exact ⟨hea, I1.hok.fresh (Nat.le_refl _), Nat.ne_of_gt lt1, I1.nofs (Nat.le_refl _), hgd⟩
      · obtain ⟨z1, z2, z3⟩ := hex p hp
        have z1 : (s1.heap.push go).objs.size ≤ p.1 := z1
        rw [szp] at z1
        exact ⟨z2, I1.hok.fresh (by omega), Nat.ne_of_gt (Nat.lt_of_lt_of_le lt1 (by omega)), I1.nofs (by omega), z3⟩
    have bad : ∀ {Φ : End → Shared → Prop} {c : Code} {ev : Value} {s' : Shared}, (gcxOf P w K mg base N qual scope f cdv Aw outer s H (fun _ _ _ => False) ((s1.heap.objs.size, go) :: ex)).xe ev s' →
        SegF (model P w) Aw Φ (.func [st0, .For (.Name x px) e [.Expr (.Yield (some (.Name x px2)) yp) yq] [] fp] (envOfC qual scope s.heap.objs.size f cdv)) ((leaving (envOfC qual scope s.heap.objs.size f cdv) ev).wrap (fun _ => .raise ev) .raise id id) [] s' := by
      intro Φ c ev s' hxe
      refine sf_wrap ?_
      rw [over_func]
      exact wpAny_mono (show wpAny (model P w) (Aw.deeper (envOfC qual scope s.heap.objs.size f cdv)) (leaving (envOfC qual scope s.heap.objs.size f cdv) ev) (fun _ s'' => CX P w outer H s (fun _ _ _ => False) ev s'' ∧ ∀ p ∈ (s1.heap.objs.size, go) :: ex, s''.heap.get? p.1 = some p.2) (fun _ _ => False) s' from hxe) (fun _ s'' q => (cx_false q.1).elim) fun _ s'' q => q.elim
    refine sf_func (sf_execs_cons (sf_wrap ?_))
    rw [over_func]
    refine wpAny_mono (hS.run [] s2 _ H _ I3 hq) (fun fl s3 h3 => ?_) fun ev s' hxe => bad (c := .func [] (envOfC qual scope s.heap.objs.size f cdv)) hxe
    cases fl with
    | brk => obtain ⟨_, _, _, q⟩ := h3; exact q.elim
    | cont => obtain ⟨_, _, _, q⟩ := h3; exact q.elim
    | ret u => obtain ⟨_, _, _, _, _, q⟩ := h3; exact q.elim
    | next =>
      obtain ⟨σ, H1, J1, q1⟩ := h3
      refine sf_execs_cons (sf_For (hs _) ?_)
      rw [over_func]
      refine wpAny_mono (hE.run [] s3 σ H1 _ J1 q1) (fun v s4 h4 => ?_) fun ev s' hxe => bad (c := .func [] (envOfC qual scope s.heap.objs.size f cdv)) hxe
      obtain ⟨xv, H4, J4, r4, T, out, rfl, hT, q4⟩ := h4
      cases r4
      obtain ⟨its, rv, pl, _⟩ := J4.list hT
      have hq4 := J4.quiet
      obtain ⟨m4, n4, _⟩ := id J4.loc
      have hLlt := J4.lt
      have hTlt := pl.lt
      have hLT : s.heap.objs.size ≠ T := fun e => by
        obtain ⟨o, es, ep, ho, hdd, _⟩ := n4
        obtain ⟨o', n', ho', _, _, hd'⟩ := pl
        have ho2 : s4.heap.get? s.heap.objs.size = some o := ho
        rw [e, ho'] at ho2
        cases ho2
        rw [hd'] at hdd
        cases hdd
      refine wpAny_pyIter_list pl.isList fun p => ?_
      have push : ∀ b o, s4.heap.get? b = some o → (s4.heap.push { cls := .type "list_iterator", data := .fields #[.ref T, .int 0 0] }).get? b = some o := fun b o e => Heap.get?_push_of_some _ e
      have hA : (Aw.over (.forLoop (.Name x px) (.ref s4.heap.objs.size) [.Expr (.Yield (some (.Name x px2)) yp) yq] [] (envOfC qual scope s.heap.objs.size f cdv)) [.ret (fun r => (backFl (envOfC qual scope s.heap.objs.size f cdv) r).wrap (fun f' => match f' with | .next => (execs [] (envOfC qual scope s.heap.objs.size f cdv)).wrap (fun f => .pure (.done (.ret (match f with | .ret v => v | _ => .none)))) (fun e => (leaving (envOfC qual scope s.heap.objs.size f cdv) e).wrap (fun _ => .raise e) .raise id id) id id | f => .pure (.done (.ret (match f with | .ret v => v | _ => .none)))) (fun e => (leaving (envOfC qual scope s.heap.objs.size f cdv) e).wrap (fun _ => .raise e) .raise id id) id id) none false [] (.func [st0, .For (.Name x px) e [.Expr (.Yield (some (.Name x px2)) yp) yq] [] fp] (envOfC qual scope s.heap.objs.size f cdv)) p []]).handled = none := by
        rw [over_handled, over_func]
        exact hrw.hd
      have hEnd : ∀ (Φ : End → Shared → Prop) s', Φ (.ret (.ok (.ret .none))) s' → SegF (model P w) Aw Φ (.forLoop (.Name x px) (.ref s4.heap.objs.size) [.Expr (.Yield (some (.Name x px2)) yp) yq] [] (envOfC qual scope s.heap.objs.size f cdv)) (.pure (.again (.block [] (envOfC qual scope s.heap.objs.size f cdv)))) [.ret (fun r => (backFl (envOfC qual scope s.heap.objs.size f cdv) r).wrap (fun f' => match f' with | .next => (execs [] (envOfC qual scope s.heap.objs.size f cdv)).wrap (fun f => .pure (.done (.ret (match f with | .ret v => v | _ => .none)))) (fun e => (leaving (envOfC qual scope s.heap.objs.size f cdv) e).wrap (fun _ => .raise e) .raise id id) id id | f => .pure (.done (.ret (match f with | .ret v => v | _ => .none)))) (fun e => (leaving (envOfC qual scope s.heap.objs.size f cdv) e).wrap (fun _ => .raise e) .raise id id) id id) none false [] (.func [st0, .For (.Name x px) e [.Expr (.Yield (some (.Name x px2)) yp) yq] [] fp] (envOfC qual scope s.heap.objs.size f cdv)) p []] s' := fun Φ s' h => by
        refine sf_loopEnd ?_
        show SegF _ _ _ _ (leafOf (.ok (.ret .none))) [] s'
        exact sf_end (.ok (.ret .none)) h
      have hlen : its.length = out.length := rv.length.symm
      have ff : ∀ s', Step s.heap.objs.size s4.heap.objs.size { s4 with heap := s4.heap.push { cls := .type "list_iterator", data := .fields #[.ref T, .int 0 0] } } s' → FF P w outer H s s1.heap.objs.size s1.gens.size s.heap.objs.size ex (Q1 T out) H4 s' := fun s' hst => by
        obtain ⟨h', tk', rfl, hk⟩ := hst
        exact ff_step J4 hgen rfl rfl (fun b o hb e => hk b o hb (Nat.ne_of_lt (Heap.lt_size e)) (push b o e)) q4
      refine sf_loopTurn (env := envOfC qual scope s.heap.objs.size f cdv) (T := T) (items := its.toArray) (i := 0) hA S.kind hx hd S.co hq4 (Nat.ne_of_lt hTlt) (Nat.ne_of_lt hLlt) hLT (by rfl) (by rfl) ⟨⟨_, Heap.get?_push_size _ rfl, rfl, rfl⟩, pl.isList.at fun o e => push T o e, ⟨m4, n4.at' fun o e => push _ o e⟩⟩ (Nat.zero_le _) (fun s' e0 hst => hEnd _ s' (.inl ⟨rfl, T, H4, ?_⟩)) fun v s' l kk p2 hv hst pr2 hkap => .inr ?_
      · rw [List.size_toArray] at e0
        have eo : out = [] := List.length_eq_zero_iff.mp (by omega)
        rw [← eo]
        exact ff s' hst
      · have hv2 : its[0]? = some v := by simpa using hv
        have h0 := (List.getElem?_eq_some_iff.mp hv2).1
        refine ⟨v, false, l, kk, _, p2, _, T, s4.heap.objs.size, H4, out, its, rfl, quiet_of (by rfl), ff s' hst, hT, J4.hok.fresh (Nat.le_refl _), rv, hv2, Nat.ne_of_lt hTlt, Nat.ne_of_lt hLlt, hLT, ?_, J4.sz, fun p hp => ⟨Nat.ne_of_lt (Heap.lt_size (J4.pin p (List.mem_append_left _ (List.mem_cons_of_mem _ hp))).1), fun e => ?_⟩, pr2, ?_⟩
        · exact Nat.ne_of_lt (Heap.lt_size (J4.pin (s1.heap.objs.size, go) (List.mem_append_left _ List.mem_cons_self)).1)
        · have pn := (J4.pin p (List.mem_append_left _ (List.mem_cons_of_mem _ hp))).2.1
          rcases hT with h | ⟨o, _, _, hk, _⟩
          · rw [e] at pn
            rcases h with h | ⟨_, h⟩ <;> rw [pn] at h <;> cases h
          · have h2 := Heap.lt_size (J4.ok.mod.kin T o hk)
            have h3 : base.objs.size ≤ s.heap.objs.size := J4.ok.bsz
            have h4 : T < base.objs.size := h2
            have z1 : (s1.heap.push go).objs.size ≤ p.1 := (hex p hp).1
            rw [szp, e] at z1
            exact absurd (Nat.lt_of_lt_of_le h4 (Nat.le_trans h3 (Nat.le_trans (Nat.le_of_lt lt1) (Nat.le_trans (Nat.le_succ _) z1)))) (Nat.lt_irrefl _)
        · exact sleeps_loop hA S.kind hx hd S.co hq4 (Nat.ne_of_lt hTlt) (Nat.ne_of_lt hLlt) hLT (by rfl) (by rfl) hEnd _ _ _ (by rw [List.size_toArray]; omega) ⟨kk, l, p2, _, rfl, hkap⟩
  exact main _ _ _ _ rfl rfl rfl fun h => Heap.get?_push_size _ rfl
end Gz

set_option Elab.async false
set_option linter.all false
set_option maxRecDepth 100000
set_option maxHeartbeats 2000000
/-! D46: list(g) of such a generator: its promise as the library's consumer of list(g) asks it. -/
namespace Gz
open PySem PySem.Spec PyProof.Rows L2 GenW
section
variable {P : Program} {w : World} {K : PySem.W.Frag} {outer : List Env} {H H' : Hp} {s s1 s2 : Shared} {a : Addr} {g : Nat} {L it : Addr} {ex : List (Addr × Obj)} {Q1 : Hp → Prop}
/-- kept but for objects that the heap of the call did not know -/
theorem FF.keep (h : FF P w outer H s a g L ex Q1 H' s1) (ch : List Addr) (ho : s2.os = s1.os) (hg : AllBare s2.gens) (k : ∀ b o, b ∉ ch → s1.heap.get? b = some o → s2.heap.get? b = some o) (hc : ∀ b ∈ ch, s.heap.objs.size ≤ b ∧ H' b = none ∧ b ≠ a ∧ ∀ p ∈ ex, p.1 ≠ b) (hl : s2.heap.NoLimit) :
    FF P w outer H s a g L ex Q1 H' s2 := by
  have neC : ∀ b o, s.heap.get? b = some o → b ∉ ch := fun b o e hb => absurd (Nat.lt_of_lt_of_le (Heap.lt_size e) (hc b hb).1) (Nat.lt_irrefl _)
  have B := h.un
  refine ⟨ho.trans h.os, hg, ⟨fun b o e n hb hx => k b o (neC b o e) (B.keep b o e n hb hx), fun b o e n hb hx => ?_, B.free, fun b o e hx => ?_, B.tups, B.frzs, B.tbls⟩, fun b u e => ?_, h.nL, h.na, ?_, hl, fun p hp => ?_, h.q⟩
  · obtain ⟨sl, e1⟩ := B.slot b o e n hb hx
    exact ⟨sl, k b _ (neC b o e) e1⟩
  · obtain ⟨o', e1⟩ := B.there b o e hx
    exact ⟨o', k b o' (neC b o e) e1⟩
  · have nit : ∀ b u, H' b = some u → b ∉ ch := fun b u e z => by rw [(hc b z).2.1] at e; cases e
    refine (h.hok b u e).stay (fun c v hc y => k c v ?_ y) (fun _ q => q) fun _ _ q => q
    rcases hc with z | z
    · rw [z]; exact nit b u e
    · exact nit c _ z
  · obtain ⟨o, nm, qn, e, r⟩ := h.isg
    exact ⟨o, nm, qn, k a o (fun z => (hc a z).2.2.1 rfl) e, r⟩
  · exact ⟨k _ _ (fun z => (hc p.1 z).2.2.2 p hp rfl) (h.pin p hp).1, (h.pin p hp).2⟩
end
theorem limit_keep {h h' : Heap} (l : h.NoLimit) (k : ∀ o, h.get? cStatics = some o → h'.get? cStatics = some o) : h'.NoLimit := by
  obtain ⟨mc, hns, hnn⟩ := l
  exact ⟨mc, hns.at' k, hnn⟩
/-- asleep behind the i-th item: the list at S holds the first i -/
structure Half (P : Program) (w : World) (outer : List Env) (H : Hp) (sc : Shared) (a : Addr) (g : Nat) (L T it S : Addr) (Q1 : Addr → List V → Hp → Prop) (out : List V) (items : List Value) (H' : Hp) (i : Nat) (s : Shared) : Prop where
  ff : FF P w outer H sc a g L [] (Q1 T out) H' s
  list : ∃ acc c, s.heap.get? S = some (lstObj acc c) ∧ acc.toList = items.take i
  pr : Priv L T it items.toArray i s.heap
theorem goes_list {P : Program} {w : World} {outer : List Env} {H H' : Hp} {sc : Shared} {a : Addr} {g : Nat} {L T it S : Addr} {Q1 : Addr → List V → Hp → Prop} {out : List V} {items : List Value} {A : Around}
    (hv : Vals out items) (hlen : items.length ≤ sizeLine) (nS : H' S = none) (nit : H' it = none) (hL : sc.heap.objs.size ≤ L) (hit : sc.heap.objs.size ≤ it) (hS : sc.heap.objs.size ≤ S) (nL : H' L = none) (aL : L ≠ a) (ait : a ≠ it) (aS : a ≠ S) (SL : S ≠ L) (Sit : S ≠ it) (ST : S ≠ T) (cS : cStatics < sc.heap.objs.size) :
    ∀ m i gs n s, i + m = items.length → n + i = sizeLine → Sleeps (model P w) A L T it items.toArray m i gs → Half P w outer H sc a g L T it S Q1 out items H' i s →
      gs.Goes (model P w) A (REnd P w outer H sc [] S a g (fun ys H' => ∃ T, Q1 T ys H') fun _ _ _ => False) (YItem sc S a g) n (.send .none) s := by
  have step : ∀ {i : Nat} {s s1 : Shared}, Half P w outer H sc a g L T it S Q1 out items H' i s → Step L it s s1 → FF P w outer H sc a g L [] (Q1 T out) H' s1 ∧ (∃ acc c, s1.heap.get? S = some (lstObj acc c) ∧ acc.toList = items.take i) := fun {i s s1} hf ⟨h', tk, e, k⟩ => by
    subst e
    refine ⟨hf.ff.keep [L, it] rfl hf.ff.bare (fun b o hb e => k b o (fun z => hb (by simp [z])) (fun z => hb (by simp [z])) e) (fun b hb => ?_) (limit_keep hf.ff.lim fun o e => k _ o ?_ ?_ e), ?_⟩
    · simp only [List.mem_cons, List.not_mem_nil, or_false] at hb
      rcases hb with rfl | rfl
      · exact ⟨hL, nL, aL, fun _ h => (List.not_mem_nil h).elim⟩
      · exact ⟨hit, nit, Ne.symm ait, fun _ h => (List.not_mem_nil h).elim⟩
    · exact Nat.ne_of_lt (Nat.lt_of_lt_of_le cS hL)
    · exact Nat.ne_of_lt (Nat.lt_of_lt_of_le cS hit)
    · obtain ⟨acc, c, e, r⟩ := hf.list
      exact ⟨acc, c, k S _ SL Sit e, r⟩
  intro m
  induction m with
  | zero =>
    rintro i gs n s him hn ⟨k, l, c, p, fs, cl, rfl, hs⟩ hf
    show Seg _ _ _ _ n s c (k (.send .none)) fs s
    rw [seg_iff]
    refine (hs s hf.pr).mono fun e s1 ⟨ee, hst⟩ => ?_
    subst ee
    obtain ⟨ff, acc, c', eS, ra⟩ := step hf hst
    have hi : i = items.length := by omega
    rw [hi, List.take_length] at ra
    exact .inl ⟨.inl rfl, H', out, acc, c', ff.os, ff.bare, ff.un, ff.hok, nS, eS, by rw [ra]; exact hv, by rw [hv.length]; exact hlen, T, ff.q⟩
  | succ m ih =>
    rintro i gs n s him hn ⟨k, l, c, p, fs, cl, rfl, hs⟩ hf
    obtain ⟨n, rfl⟩ : ∃ n', n = n' + 1 := ⟨n - 1, by omega⟩
    show Seg _ _ _ _ (n + 1) s c (k (.send .none)) fs s
    rw [seg_iff]
    refine (hs s hf.pr).mono fun e s1 ⟨v, g', l', k', c', p', fs', ee, hqu, hvi, hst, pr1, hsl⟩ => ?_
    subst ee
    obtain ⟨ff, acc, ca, eS, ra⟩ := step hf hst
    have hil : i < items.length := by
      have := (Array.getElem?_eq_some_iff.mp hvi).1
      rwa [List.size_toArray] at this
    have hsz : acc.size = i := by
      have e1 : acc.toList.length = acc.size := by simp
      rw [← e1, ra, List.length_take]
      omega
    refine ⟨hqu, ff.os, ff.bare, ff.lim, ff.isg, ⟨acc, ca, eS, by omega⟩, fun s' z => ?_⟩
    have hv2 : items[i]? = some v := by simpa using hvi
    refine ih (i + 1) (End.genState (.susp v g' l' k' c' p' fs')) n s' (by omega) (by omega) hsl ⟨ff.keep [S] z.os z.bare (fun b o hb e => z.keep b o (fun q => hb (by simp [q])) e) (fun b hb => ?_) (limit_keep ff.lim fun o e => z.keep _ o (Nat.ne_of_lt (Nat.lt_of_lt_of_le cS hS)) e), ?_, ⟨pr1.iter.at fun o e => z.keep _ o (Ne.symm Sit) e, pr1.list.at fun o e => z.keep _ o (Ne.symm ST) e, ?_⟩⟩
    · rw [List.mem_singleton.mp hb]
      exact ⟨hS, nS, Ne.symm aS, fun _ h => (List.not_mem_nil h).elim⟩
    · obtain ⟨c2, e2⟩ := z.own acc ca eS
      exact ⟨acc.push v, c2, e2, by rw [Array.toList_push, ra, List.take_add_one, hv2]; rfl⟩
    · obtain ⟨mm, hn⟩ := pr1.ns
      exact ⟨mm, hn.at' fun o e => z.keep _ o (Ne.symm SL) e⟩
theorem gmade_of {P : Program} {w : World} {K : PySem.W.Frag} {k : Nat} {outer : List Env} {H : Hp} {sc s' : Shared} {Q1 : Addr → List V → Hp → Prop} {u : Value} (cS : cStatics < sc.heap.objs.size) (h : GMk P w K k outer H sc Q1 u s') (hbd : ∀ T ys H', Q1 T ys H' → ys.length ≤ sizeLine) :
    GMade P w k outer H sc [] (fun ys H' => ∃ T, Q1 T ys H') (fun _ _ _ => False) u s' := by
  obtain ⟨a, g, c, L, rfl, a1, a2, l1, l2, la, hg, hgs, hos, hb, hl, hk, hrun⟩ := h
  refine ⟨a, g, c, rfl, a1, a2, hg, hgs, hos, hb, hl, hk, fun A S s2 hr hfr hSx hk2 ⟨cS2, eS⟩ hos2 hba => ?_⟩
  rw [seg_iff]
  refine (hrun A [(S, lstObj #[] cS2)] s2 hr hfr hk2 hos2 hba (fun p hp => by rw [List.mem_singleton.mp hp]; exact ⟨hSx, eS, fun v q => by cases q⟩)).mono fun e s1 he => ?_
  rcases he with ⟨rfl, T, H', ff⟩ | ⟨v, g', l, k', c', p, fs, T, it, H', out, items, rfl, hqu, ff, hT, nit, hv, hv0, Tit, Lit, LT, ait, hit, hex, pr1, hsl⟩
  · obtain ⟨e1, n1⟩ := ff.pin (S, lstObj #[] cS2) (List.mem_singleton.mpr rfl)
    exact .inl ⟨.inl rfl, H', [], #[], cS2, ff.os, ff.bare, ff.un, ff.hok, n1, e1, .nil, Nat.zero_le _, T, ff.q⟩
  · obtain ⟨e1, n1⟩ := ff.pin (S, lstObj #[] cS2) (List.mem_singleton.mpr rfl)
    obtain ⟨Sit, ST⟩ := hex (S, lstObj #[] cS2) (List.mem_singleton.mpr rfl)
    have ff0 : FF P w outer H sc a g L [] (Q1 T out) H' s1 := ⟨ff.os, ff.bare, ff.un, ff.hok, ff.nL, ff.na, ff.isg, ff.lim, fun _ h => (List.not_mem_nil h).elim, ff.q⟩
    have hlen : items.length ≤ sizeLine := by
      rw [← hv.length]
      exact hbd _ _ _ ff.q
    have h0 : 0 < items.length := (List.getElem?_eq_some_iff.mp hv0).1
    have aS : a ≠ S := Nat.ne_of_lt (Nat.lt_of_lt_of_le a2 hSx)
    have LS : L ≠ S := Nat.ne_of_lt (Nat.lt_of_lt_of_le l2 hSx)
    have hS : sc.heap.objs.size ≤ S := Nat.le_trans (Nat.le_trans a1 (Nat.le_of_lt a2)) hSx
    obtain ⟨sl, hsle⟩ : ∃ n, sizeLine = n + 1 := ⟨sizeLine - 1, by have : 0 < sizeLine := Nat.lt_of_lt_of_le h0 hlen; omega⟩
    refine ⟨hqu, ff.os, ff.bare, ff.lim, ff.isg, ⟨#[], cS2, e1, by show sizeLine - 1 + 1 + 0 = sizeLine; omega⟩, fun s'' z => ?_⟩
    have go : Seg.next (model P w) A (REnd P w outer H sc [] S a g (fun ys H' => ∃ T, Q1 T ys H') fun _ _ _ => False) (YItem sc S a g) sizeLine c' (k' (.send .none)) fs s'' := by
      rw [hsle]
      show Seg _ _ _ _ sl s'' c' (k' (.send .none)) fs s''
      refine goes_list (T := T) (it := it) hv hlen n1 nit l1 hit hS ff.nL la ait aS (Ne.symm LS) Sit ST cS (items.length - 1) 1 (End.genState (.susp v g' l k' c' p fs)) sl s'' (by omega) (by omega) hsl ⟨ff0.keep [S] z.os z.bare (fun b o hb e => z.keep b o (fun q => hb (by simp [q])) e) (fun b hb => ?_) (limit_keep ff.lim fun o e => z.keep _ o (Nat.ne_of_lt (Nat.lt_of_lt_of_le cS hS)) e), ?_, ⟨pr1.iter.at fun o e => z.keep _ o (Ne.symm Sit) e, pr1.list.at fun o e => z.keep _ o (Ne.symm ST) e, ?_⟩⟩
      · rw [List.mem_singleton.mp hb]
        exact ⟨hS, n1, Ne.symm aS, fun _ h => (List.not_mem_nil h).elim⟩
      · obtain ⟨c2, e2⟩ := z.own #[] cS2 e1
        refine ⟨(#[] : Array Value).push v, c2, e2, ?_⟩
        rw [Array.toList_push]
        cases items with
        | nil => cases h0
        | cons x r =>
          cases hv0
          rfl
      · obtain ⟨mm, hn⟩ := pr1.ns
        exact ⟨mm, hn.at' fun o e => z.keep _ o LS e⟩
    exact go
end Gz

set_option Elab.async false
set_option linter.all false
set_option maxRecDepth 100000
set_option maxHeartbeats 2000000
/-! D47: generator defs over data: list(f(..)). -/
namespace Dl
open PySem PySem.Spec PyProof.Rows L2 Gz
/-- a generator def's spec: from its arguments to all that it hands out -/
abbrev GSp := List D → List D → Prop
def liftG (K : PySem.W.Frag) (sp : GSp) : SpO := fun vs H Q1 => ∃ F ds od, Sat K ⟨F, H, []⟩ [] [] F [] H ∧ Reps K F vs ds ∧ sp ds od ∧ ∀ T out F' H' G σ, Sat K ⟨F, H, []⟩ G [] F' σ H' → Reps K F' out od → SqL K F' T out → Q1 T out H'
def GGenK (M : Mach) (x : Str) (ks : List Str) (k : Nat) (sp : GSp) : Prop := ∃ (f : Addr) (fd : FuncData) (ps : List Str), M.mg x = some (.ref f) ∧ PySem.W.keepIn M.K (.ref f) = true ∧ KBinds M.K fd ps ks (kwJoin ks) (kwJoin ks) ∧ GOk M.P M.w M.K M.mg M.base k f fd ps (liftG M.K sp)
theorem _root_.Gz.GOk.mono {P : Program} {w : World} {K : PySem.W.Frag} {mg : Str → Option Value} {base : Heap} {j k : Nat} {f : Addr} {fd : FuncData} {ps : List Str} {sp : SpO} (h : GOk P w K mg base j f fd ps sp) (l : j ≤ k) : GOk P w K mg base k f fd ps sp :=
  ⟨h.len, fun A outer s H args us vs Q1 hr e0 hb r q => codeAny_mono (h.run A outer s H args us vs Q1 (hr.mono l) e0 hb r q) fun r s' z => by
    cases r with
    | error e => exact z
    | ok fl =>
      cases fl with
      | ret u =>
        obtain ⟨a, g, c, L, h1, h2, h3, h4, h5, h6, h7, h8, h9, h10, h11, h12, h13⟩ := z
        exact ⟨a, g, c, L, h1, h2, h3, h4, h5, h6, h7, h8, h9, h10, h11, h12, fun A ex s2 hr2 => h13 A ex s2 (hr2.mono l)⟩
      | _ => exact z⟩
theorem GGenK.mono {M : Mach} {x : Str} {ks : List Str} {j k : Nat} {sp : GSp} (h : GGenK M x ks j sp) (l : j ≤ k) : GGenK M x ks k sp := by
  obtain ⟨f, fd, ps, h1, h2, h3, h4⟩ := h
  exact ⟨f, fd, ps, h1, h2, h3, h4.mono l⟩
/-- a generator def by its body -/
theorem gen_body {M : Mach} {x qual : Str} {st st0 : Stmt} {e : Expr} {y : Str} {px px2 yp yq fp : Pos} {f : Addr} {fd : FuncData} {N vn ps gl : List Str} {k : Nat} {sp : GSp} (F : Fun M.K x qual st f fd) (S : GScope N ps (defScope st)) (hst : defBody st = [st0, .For (.Name y px) e [.Expr (.Yield (some (.Name y px2)) yp) yq] [] fp])
    (hy : (defScope st).names.lookup y = some .local) (hd : (y == ("__debug__" : Str)) = false) (hs : ∀ env v, foldedSetIterable e env v = pure v) (hb : defB (defScope st) vn gl = true) (len : ∀ ds od, sp ds od → ds.length = ps.length)
    (body : ∀ (X : Cx) (B : Bs) (ds od : List D), Cxt M X N (defScope st) (fun x => vn.contains x) (fun x => vn.contains x) (fun x => gl.contains x) → Room k X.A → sp ds od → WS X B (startD N ds) [] st0 { nx := fun G' O' => G' = startD N ds ∧ O' = [], rt := fun _ _ => False } ∧ PEv X B (startD N ds) [] e (.lst od)) :
    GOk M.P M.w M.K M.mg M.base (k + 1) f fd ps (liftG M.K sp) := by
  unfold defB at hb
  rw [Bool.and_eq_true, List.all_eq_true, List.all_eq_true] at hb
  obtain ⟨hb1, hb2⟩ := hb
  obtain ⟨oc, od, kV, doc, pm, an, cdv, ct, osl, rfl, lk, hcd⟩ := F.ex
  rw [hst] at lk ⊢
  refine gok_of lk hcd S hy hd (fun vs H Q h => ?_) hs fun A outer s H vs Q1 pn hr h => ?_
  · obtain ⟨F0, ds, od, _, r, h, _⟩ := h
    rw [r.length]
    exact len _ _ h
  · obtain ⟨F0, ds, od, S0, rs, hsp, q1⟩ := h
    have hlen : vs.length = ds.length := rs.length
    have C : Cxt M (gcxOf M.P M.w M.K M.mg M.base N qual (defScope st) f cdv A outer s H (fun _ _ _ => False) pn) N (defScope st) (fun x => vn.contains x) (fun x => vn.contains x) (fun x => gl.contains x) := by
      refine ⟨rfl, rfl, rfl, S.kind, S.nd, rfl, owns_gcx, hr.units, fun y hy => ?_, fun y hy => ?_, fun y hy => ?_⟩
      · have z := hb1 y (contains_mem hy)
        rw [Bool.and_eq_true] at z
        exact vis_of z.1
      · have z := hb1 y (contains_mem hy)
        rw [Bool.and_eq_true] at z
        exact ⟨loc_of z.2, .inl rfl⟩
      · exact gl_of (hb2 y (contains_mem hy))
    obtain ⟨b1, b2⟩ := body _ ⟨F0, H, []⟩ ds od C hr hsp
    refine ⟨_, _, ps_sem, pe_sem, ?_⟩
    have S1 : Sat M.K ⟨F0, H, []⟩ (startD N ds) [] F0 (L2.start N vs) H := by
      refine ⟨?_, fun i d e => ?_, S0.ex, S0.nd, S0.own, S0.bF, S0.bH⟩
      · unfold L2.start startD
        rw [List.length_append, List.length_append, List.length_map, List.length_map, List.length_replicate, List.length_replicate, hlen]
      · unfold startD at e
        unfold L2.start
        by_cases hi : i < ds.length
        · rw [List.getElem?_append_left (by rw [List.length_map]; exact hi), List.getElem?_map] at e
          cases e2 : ds[i]? with
          | none => rw [e2] at e; cases e
          | some d' =>
            rw [e2] at e
            cases e
            obtain ⟨v, h1, h2⟩ := rs.get e2
            refine ⟨v, ?_, h2⟩
            rw [List.getElem?_append_left (by rw [List.length_map, hlen]; exact hi), List.getElem?_map, h1] <;> rfl
        · rw [List.getElem?_append_right (by rw [List.length_map]; omega), List.getElem?_replicate] at e
          split at e <;> cases e
    refine b1 F0 (L2.start N vs) H S1 _ ⟨fun G' O' F' σ' H' S' e' p => ?_, fun _ _ _ _ _ _ _ _ _ _ p => p.elim, fun _ _ _ _ _ _ _ p => p.elim, fun _ _ _ _ _ _ _ p => p.elim⟩
    obtain ⟨rfl, rfl⟩ := p
    refine b2 F' σ' H' S' _ fun v F2 H2 d O2 S2 e2 r2 p2 => ?_
    obtain ⟨rfl, rfl⟩ := p2
    cases r2 with
    | lst hq rs2 => exact ⟨_, _, rfl, S2.ex.seq hq, q1 _ _ F2 H2 _ σ' S2 rs2 hq⟩
theorem ggenK_mk {M : Mach} {x qual : Str} {st : Stmt} {f : Addr} {fd : FuncData} {ps ks : List Str} {k : Nat} {sp : GSp} (hm : M.mg x = some (.ref f)) (F : Fun M.K x qual st f fd) (b : KBinds M.K fd ps ks (kwJoin ks) (kwJoin ks)) (h : GOk M.P M.w M.K M.mg M.base k f fd ps (liftG M.K sp)) : GGenK M x ks k sp := ⟨f, fd, ps, hm, F.kp, b, h⟩
/-! ### the call of a generator def -/
section
variable {X : Cx} {k : Nat} {f : Addr} {fd : FuncData} {ps ks : List Str} {sp : SpO} {x : Str} {p pos : Pos} {e : Expr} {es : List Expr} {kws : List Keyword} {t tk : TA} {g : List Value → List Value → List Value} {gV : List V → List V → List V}
/-- an expression that gives such a generator -/
structure PGk (X : Cx) (k : Nat) (e : Expr) (tg : L2.St → Hp → (Addr → List V → Hp → Prop) → Prop) : Prop where
  run : ∀ (pins : List (Addr × Obj)) (s : Shared) (σ : L2.St) (H : Hp) (cont : Addr → List V → Hp → Prop), Inv X pins σ H s → tg σ H cont → wpAny (model X.prog X.w) X.A (eval e X.env) (fun u s' => ∃ H1 sc, Inv X pins σ H1 sc ∧ GMk X.prog X.w X.K k X.stack H1 sc cont u s') X.xe s
def tGenK (sp : SpO) (gV : List V → List V → List V) (t tk : TA) : L2.St → Hp → (Addr → List V → Hp → Prop) → Prop := fun σ H cont => t σ H fun vs H1 => tk σ H1 fun zs H2 => sp (gV vs zs) H2 cont
theorem pgk_callK (F : GOk X.prog X.w X.K X.mg X.base k f fd ps sp) (hr : Room k X.A) (hg : Gl X x) (hm : X.mg x = some (.ref f)) (hk : PySem.W.keepIn X.K (.ref f) = true) (hb : KBinds X.K fd ps ks g gV)
    (ha : PA X (e :: es) t) (hkw : PK X kws tk) (hall : (backToKw pos (keywordEach kws X.env)).all (·.1.isSome) = true := by rfl) (hks : (backToKw pos (keywordEach kws X.env)).filterMap (·.1) = ks := by rfl)
    (hdb : (x == ("__debug__" : Str)) = false := by decide) (he : starEach (e :: es) X.env = (false, eval e X.env) :: starEach es X.env := by exact star_cons rfl)
    (hpl : ((backTo pos (starEach (e :: es) X.env)).any (·.1) || (backToKw pos (keywordEach kws X.env)).any (·.1.isNone)) = false := by rfl) :
    PGk X k (.Call (.Name x p) (e :: es) kws pos) (tGenK sp gV t tk) := by
  refine ⟨fun pins s σ H cont I h => ?_⟩
  refine wpAny_Call_Name_kw (ld_glob I hg hm ?_ hdb)
  refine PySem.W.callWith_KW (h₀ := X.base) I.ok.mod.kin hk hall (thn (ha.run pos pins s σ H _ I h) fun us s1 ⟨vs, H1, I1, r, q⟩ => ?_) hpl he
  refine thn (hkw.run pos pins s1 σ H1 _ I1 q) fun ws s2 ⟨zs, H2, I2, rz, q2⟩ => ⟨I2.kIn, ?_⟩
  rw [hks]
  have r2 := hb.rel r rz
  have hl : (g us ws).length = ps.length := by rw [← r2.length]; exact F.len _ _ _ q2
  refine wpAny_call (codeAny_mono (F.run X.A X.stack s2 H2 ⟨us, ks.zip ws⟩ (g us ws) (gV vs zs) cont hr I2.env0 (hb.to s2 us ws I2.kIn hl) r2 q2) fun r s' hq => ?_)
  cases r with
  | error e => exact False.elim hq
  | ok fl =>
    cases fl with
    | ret u => exact ⟨H2, s2, I2, hq⟩
    | next => exact False.elim hq
    | brk => exact False.elim hq
    | cont => exact False.elim hq
theorem PGk.pgen {tg : L2.St → Hp → (Addr → List V → Hp → Prop) → Prop} (h : PGk X k e tg) : PGen X k e (fun σ H cont => tg σ H fun _ out H' => out.length ≤ sizeLine ∧ cont out H') (fun _ _ _ => False) := ⟨fun pins s σ H cont I q =>
  thn (h.run pins s σ H _ I q) fun u s' ⟨H1, sc, I1, gm⟩ => by
    obtain ⟨mc, hn, _⟩ := I1.nolimit
    have z := gmade_of hn.lt gm fun T ys H' q => q.1
    refine ⟨H1, sc, [], I1, .nil, ?_⟩
    obtain ⟨a, g, c, z1, z2, z3, z4, z5, z6, z7, z8, z9, z10⟩ := z
    exact ⟨a, g, c, z1, z2, z3, z4, z5, z6, z7, z8, z9, fun A S s2 y1 y2 y3 y4 y5 y6 y7 => seg_imp (fun n s₀ r s hR => by
      rcases hR with ⟨e1, H', ys, acc, c, w1, w2, w3, w4, w5, w6, w7, w8, w9⟩ | hR
      · exact .inl ⟨e1, H', ys, acc, c, w1, w2, w3, w4, w5, w6, w7, w8, (by obtain ⟨_, z⟩ := w9; exact z.2)⟩
      · exact .inr hR) (fun n s₀ v s kap kap' hk hY => by
      obtain ⟨w1, w2, w3, w4, w5, w6⟩ := hY
      exact ⟨w1, w2, w3, w4, w5, fun s' z => hk _ _ (w6 s' z)⟩) sizeLine (z10 A S s2 y1 y2 y3 y4 y5 y6 y7)⟩⟩
end
section
variable {M : Mach} {X : Cx} {N : List Str} {sc : Scope} {vb lb gb : Str → Bool} {B : Bs} {G : Sl} {O : Own} {e : Expr} {es : List Expr} {pos p pos2 p2 : Pos} {x : Str} {k : Nat} {sp : GSp}
/-- what such a call asks behind its arguments -/
def GPost (sp : GSp) (Φ : List D → Own → Prop) (ds : List D) (O1 : Own) : Prop := ∃ od, sp ds od ∧ od.length ≤ 1000000 ∧ Φ od O1
theorem gpost_run {Φ : List D → Own → Prop} {F1 H1 : Hp} {σ : L2.St} {O1 : Own} {vs : List V} {ds : List D} {Q : Addr → List V → Hp → Prop} {K : PySem.W.Frag} (S1 : Sat K B G O1 F1 σ H1) (r1 : Reps K F1 vs ds) (p1 : GPost sp Φ ds O1)
    (k : ∀ T out F' H' od, Sat K B G O1 F' σ H' → Same F1 F' → Reps K F' out od → SqL K F' T out → od.length ≤ 1000000 → Φ od O1 → Q T out H') : liftG K sp vs H1 Q := by
  obtain ⟨od, h, hl, q⟩ := p1
  refine ⟨F1, ds, od, S1.part (O1 := []) (O2 := O1) (Gs := []) (τ := []) rfl (fun i d e => by simp at e), r1, h, fun T out F' H' G' σ' S' r' hT => ?_⟩
  exact k T out F' H' od (S1.frame (O1 := []) (O2 := O1) S') S'.bF r' hT hl q
/-- list(f(..)) of a generator def -/
theorem wn_listGen {ks : List Str} {kws : List Keyword} {Φ : List D → Own → Prop} (C : Cxt M X N sc vb lb gb) (f : GGenK M x ks k sp) (hr : Room (k + 3) X.A) (hg : gb x = true) (hm : M.mg "list" = none) (hl : gb "list" = true) (h : WA X B G O (e :: es) fun ds O1 => WK X B G O1 kws fun zs O2 => zs.length = ks.length ∧ GPost sp Φ (ds ++ zs) O2)
    (hall : (backToKw pos (keywordEach kws X.env)).all (·.1.isSome) = true := by rfl) (hks : (backToKw pos (keywordEach kws X.env)).filterMap (·.1) = ks := by rfl)
    (he : starEach (e :: es) X.env = (false, eval e X.env) :: starEach es X.env := by exact star_cons rfl) (hpl : ((backTo pos (starEach (e :: es) X.env)).any (·.1) || (backToKw pos (keywordEach kws X.env)).any (·.1.isNone)) = false := by rfl) :
    WN X B G O (.Call (.Name "list" p2) [.Call (.Name x p) (e :: es) kws pos] [] pos2) Φ := fun F σ H S Q kk => by
  obtain rfl := C.hM
  obtain ⟨f, fd, ps, h1, h2, h3, h4⟩ := f
  have hk : Room k X.A := hr.mono (Nat.le_add_right k 3)
  refine sem (pe_listG (pgk_callK h4 hk (C.gl x hg).1 h1 h2 h3 pa_sem pk_sem hall hks (C.gl x hg).2 he hpl).pgen (fun _ _ _ _ _ _ _ c => (cx_false c).elim) (fun _ _ _ z => z.elim) hr (C.gl _ hl).1 hm rfl (by decide) (C.gl _ hl).2 (star_cons rfl)) ?_
  refine h F σ H S _ fun vs F1 H1 ds O1 S1 e1 r1 p1 => ?_
  refine p1 F1 σ H1 S1 _ fun zs F2 H2 es O2 S2 e2 r2 ⟨pl, p2⟩ => ?_
  have ej : kwJoin ks vs zs = vs ++ zs := if_pos (by rw [r2.length, pl])
  rw [ej]
  refine gpost_run S2 ((r1.mono e2).append r2) p2 fun T out F' H' od S' e' r' _ hl' q' => ⟨?_, fun p' hp => ?_⟩
  · rw [r'.length]
    exact Nat.le_trans hl' (by decide)
  · exact kk p' od F' _ O2 (S'.allocOwn hp (ov := .lst od) ⟨out, upd_same, r'⟩) ((e1.trans e2).trans e') q'
end
end Dl

set_option Elab.async false
set_option linter.all false
set_option maxRecDepth 100000
set_option maxHeartbeats 2000000
/-! D48: `for x in g: y.append(x)`: a turn at the machine's level, in which the table of generators is kept. -/
namespace Gz
open PySem PySem.Spec PyProof.Rows L2 GenW
section
variable {X : Cx} {pins : List (Addr × Obj)} {σ : L2.St} {H : Hp} {s : Shared}
/-- a local name is stored -/
theorem inv_stored {i : Nat} {x : Str} {v : V} {u : Value} {m : Str → Option Value} {h' : Heap} {t : Nat} (I : Inv X pins σ H s) (hN : X.N.Nodup) (hi : X.N[i]? = some x) (hk : X.env.scope.names.lookup x = some .local) (r : RelV v u)
    (hn : s.heap.Ns X.env.locals m) (hl : ∀ (i : Nat) (x : Str) (v : V), X.N[i]? = some x → σ[i]? = some (some v) → Vis X.env.scope x → ∃ u, RelV v u ∧ Look X.env s.heap m x u) (hn' : h'.Ns X.env.locals fun y => if y = x then some u else m y) (hs : Heap.SameBut X.env.locals s.heap h') :
    Inv X pins (σ.set i (some v)) H { s with heap := h', toks := t } := by
  have hiσ : i < σ.length := by rw [I.len]; exact (List.getElem?_eq_some_iff.mp hi).1
  have ne0 : ∀ b o, X.s_0.heap.get? b = some o → b ≠ X.env.locals := fun b o e => Nat.ne_of_lt (Nat.lt_of_lt_of_le (Heap.lt_size e) I.ok.above)
  refine ⟨I.ok, I.os, I.bare, ⟨fun b o e n hb hx => (hs.2 b (ne0 b o e)).trans (I.base.keep b o e n hb hx), fun b o e n hb hx => ?_, I.base.free, fun b o e hx => ?_, I.base.tups, I.base.frzs, I.base.tbls⟩, ⟨_, hn', fun j y v' e1 e2 e3 => ?_⟩, fun y c e => ?_, I.free, I.freeC, fun p hp => ?_, fun b ob e => ?_, by rw [List.length_set]; exact I.len⟩
  · obtain ⟨sl, e1⟩ := I.base.slot b o e n hb hx
    exact ⟨sl, (hs.2 b (ne0 b o e)).trans e1⟩
  · obtain ⟨o', e1⟩ := I.base.there b o e hx
    exact ⟨o', (hs.2 b (ne0 b o e)).trans e1⟩
  · by_cases hj : j = i
    · subst hj
      rw [hi] at e1
      cases e1
      rw [List.getElem?_set_self hiσ] at e2
      cases e2
      exact ⟨u, r, .inl ⟨hk, if_pos rfl⟩⟩
    · rw [List.getElem?_set_ne (Ne.symm hj)] at e2
      obtain ⟨u', r', q⟩ := hl j y v' e1 e2 e3
      refine ⟨u', r', ?_⟩
      rcases q with ⟨k, e⟩ | ⟨k, c, e, z⟩
      · have ne : y ≠ x := fun e => hj (nodup_ix hN e1 (e ▸ hi))
        exact .inl ⟨k, (if_neg ne).trans e⟩
      · exact .inr ⟨k, c, e, z.sameBut hs (I.cne y c e)⟩
  · obtain ⟨w', z⟩ := I.cell y c e
    exact ⟨w', z.sameBut hs (I.cne y c e)⟩
  · obtain ⟨e, n, ne, nf, d⟩ := I.pin p hp
    exact ⟨(hs.2 p.1 ne).trans e, n, ne, nf, d⟩
  · have nL : ∀ c u, H c = some u → c ≠ X.env.locals := fun c u q z => by rw [z, I.free] at q; cases q
    refine (I.hok b ob e).stay (fun c w' hc q => (hs.2 c ?_).trans q) (fun _ q => q) fun _ _ q => q
    rcases hc with z | z
    · rw [z]; exact nL b ob e
    · exact nL c _ z
/-- the table of generators may be another -/
theorem inv_gens {G : Array GenState} (I : Inv X pins σ H s) (hG : AllBare G) : Inv X pins σ H { s with gens := G } := ⟨I.ok, I.os, hG, I.base, I.loc, I.cell, I.free, I.freeC, I.pin, I.hok, I.len⟩
/-- x is the item, y.append(x) -/
theorem turn_append {i j : Nat} {x y : Str} {v : V} {u : Value} {q : Addr} {zs : List V} {px py px2 apos cpos epos : Pos} {E : Value → Shared → Prop} {Q : Shared → Prop} (I : Inv X pins σ H s) (hN : X.N.Nodup) (hi : X.N[i]? = some x) (hkx : X.env.scope.names.lookup x = some .local) (hj : X.N[j]? = some y) (hky : X.env.scope.names.lookup y = some .local) (hxy : i ≠ j)
    (hdx : (x == ("__debug__" : Str)) = false) (hdy : (y == ("__debug__" : Str)) = false) (hq : σ[j]? = some (some (.ref q))) (hH : H q = some (.lst zs)) (hz : zs.length < sizeLine) (r : RelV v u)
    (hbase : attributeBase (.Name y py) "append" X.env (eval (.Name y py) X.env) = eval (.Name y py) X.env)
    (hfew : ((backTo cpos (starEach [.Name x px2] X.env)).all (fun x => !x.1) && (backToKw cpos (keywordEach [] X.env)).all (fun x => x.1.isSome) && decide (([.Name x px2] : List Expr).length + ([] : List Keyword).length + (if ([] : List Keyword).isEmpty then 0 else 1) < 30)) = true)
    (hline : (apos.endLine == cpos.line) = true) (htrees : backTo cpos (starEach [.Name x px2] X.env) = [(false, eval (.Name x px2) X.env)])
    (hsw : swapsWith (.Call (.Attribute (.Name y py) "append" apos) [.Name x px2] [] cpos) none epos.line X.env = pure false)
    (h : ∀ s', Inv X pins (σ.set i (some v)) (upd H q (.lst (zs ++ [v]))) s' → s'.gens = s.gens → (∀ b o, b ≠ X.env.locals → b ≠ q → s.heap.get? b = some o → s'.heap.get? b = some o) → Q s') :
    wpAny (model X.prog X.w) X.A (assign (.Name x px) X.env u) (fun _ s2 => wpAny (model X.prog X.w) X.A (execs [.Expr (.Call (.Attribute (.Name y py) "append" apos) [.Name x px2] [] cpos) epos] X.env) (fun f s3 => f = .next ∧ Q s3) E s2) E s := by
  obtain ⟨m, hn, hl⟩ := id I.loc
  have hcls : (X.env.scope.kind == .class || (X.env.scope.kind == .module && X.env.locals != X.env.globals)) = false := by rw [I.ok.kind]; rfl
  have hiσ : i < σ.length := by rw [I.len]; exact (List.getElem?_eq_some_iff.mp hi).1
  refine wpAny_assign_Name (wpAny_storeName_local hkx hn (fun h1 hn1 hs1 => ?_) hcls)
  have I1 := inv_stored (t := s.toks + 1) I hN hi hkx r hn hl hn1 hs1
  obtain ⟨m1, n1, l1⟩ := id I1.loc
  have look : ∀ {a : Nat} {z : Str} {vz : V}, X.N[a]? = some z → X.env.scope.names.lookup z = some .local → (σ.set i (some v))[a]? = some (some vz) → ∃ uz, RelV vz uz ∧ m1 z = some uz := fun {a z vz} e1 e2 e3 => by
    obtain ⟨uz, rz, lz⟩ := l1 a z vz e1 e3 (.inl e2)
    rcases lz with ⟨_, e⟩ | ⟨k, _⟩
    · exact ⟨uz, rz, e⟩
    · rcases k with k | k
      · rw [show X.env.kindOf z = X.env.scope.names.lookup z from rfl, e2] at k
        cases k
      · rw [show X.env.kindOf z = X.env.scope.names.lookup z from rfl, e2] at k
        cases k
  obtain ⟨uy, ry, my⟩ := look hj hky (by rw [List.getElem?_set_ne hxy]; exact hq)
  obtain ⟨ux, rx, mx⟩ := look hi hkx (by rw [List.getElem?_set_self hiσ])
  cases ry
  obtain ⟨z, its, n, rv, hlen, e⟩ := I1.lstM hH
  refine wpAny_execs_cons (wpAny_Expr_any (wpAny_Call_append hbase hfew hline htrees (wpAny_Name (wpAny_loadName_local I.ok.kind hky n1 my ⟨q, its.toArray, rfl, ⟨_, n, e, rfl, rfl, rfl⟩, wpAny_Name (wpAny_loadName_local I.ok.kind hkx n1 mx ?_) hdx⟩) hdy)) I1.quiet hsw)
  refine call_meets PySem.F.slot_list_append ⟨_, e, rfl⟩ PySem.F.entry_list_append (PySem.F.args_list_append_2 _ _) (PySem.list_append q its.toArray n ux (by rw [List.size_toArray]; omega)) ⟨e, ?_⟩
  refine wpAny_execs_nil ⟨rfl, h _ (I1.lset (its' := its ++ [ux]) hH e (by simp) (rv.append (.cons rx .nil)) (by rw [List.length_append, List.length_singleton]; omega)) rfl fun b o hbL hbq eb => ?_⟩
  exact (Heap.get?_update_other _ _ (Ne.symm hbq)).trans ((hs1.2 b hbL).trans eb)
end
end Gz

set_option Elab.async false
set_option linter.all false
set_option maxRecDepth 100000
set_option maxHeartbeats 2000000
/-! D49: for x in f(..): y.append(x), f a generator def. -/
namespace Gz
open PySem PySem.Spec PyProof.Rows L2 GenW
theorem upd_eta {H : Hp} {q : Addr} {o : HO} (h : H q = some o) : upd H q o = H := by
  funext b
  unfold upd
  split
  · rename_i e
    rw [e]
    exact h.symm
  · rfl
/-- what stays true through the loop -/
structure GStat (X : Cx) (pins : List (Addr × Obj)) (H' : Hp) (a L T it q : Addr) (out : List V) (items : List Value) (zs : List V) : Prop where
  hv : Vals out items
  Hq : H' q = some (.lst zs)
  len : zs.length + out.length ≤ sizeLine
  fL : FpOk X pins H' L
  fit : FpOk X pins H' it
  qT : q ≠ T
  qa : q ≠ a
  La : L ≠ a
  ait : a ≠ it
  al : a ≠ X.env.locals
  Tl : T ≠ X.env.locals
section
variable {X : Cx} {pins : List (Addr × Obj)} {H' : Hp} {a L T it q : Addr} {g : Nat} {out : List V} {items : List Value} {zs : List V} {σ : L2.St} {ix : Nat}
theorem GStat.qL (h : GStat X pins H' a L T it q out items zs) : q ≠ L := fun e => by
  have z := h.Hq
  rw [e, h.fL.1] at z
  cases z
theorem GStat.qit (h : GStat X pins H' a L T it q out items zs) : q ≠ it := fun e => by
  have z := h.Hq
  rw [e, h.fit.1] at z
  cases z
theorem GStat.fp (h : GStat X pins H' a L T it q out items zs) (o : HO) : ∀ b ∈ [L, it], FpOk X pins (upd H' q o) b := fun b hb => by
  simp only [List.mem_cons, List.not_mem_nil, or_false] at hb
  rcases hb with rfl | rfl
  · exact ⟨(upd_ne (Ne.symm h.qL)).trans h.fL.1, h.fL.2⟩
  · exact ⟨(upd_ne (Ne.symm h.qit)).trans h.fit.1, h.fit.2⟩
/-- asleep behind the i-th item, m are left: the consumer's list holds the first i more -/
structure GMid (X : Cx) (pins : List (Addr × Obj)) (H' : Hp) (a L T it q : Addr) (g : Nat) (out : List V) (items : List Value) (zs : List V) (σ : L2.St) (ix i m : Nat) (s : Shared) : Prop where
  st : ∃ σi, Inv X pins σi (upd H' q (.lst (zs ++ out.take i))) s ∧ (σi = σ ∨ ∃ v ∈ out, σi = σ.set ix (some v))
  sum : i + m = out.length
  isg : s.heap.IsGen a g
  gen : ∃ gs, s.gens[g]? = some gs ∧ Sleeps (model X.prog X.w) X.A.in1 L T it items.toArray m i gs
  pr : Priv L T it items.toArray i s.heap
/-- behind a yield: the item is stored and appended -/
theorem after_yield {i m j : Nat} {x y : Str} {px py px2 apos cpos epos : Pos} {v : Value} {s : Shared} {σi : L2.St} {E : Value → Shared → Prop} (G : GStat X pins H' a L T it q out items zs)
    (hN : X.N.Nodup) (hi : X.N[ix]? = some x) (hkx : X.env.scope.names.lookup x = some .local) (hj : X.N[j]? = some y) (hky : X.env.scope.names.lookup y = some .local) (hxy : ix ≠ j)
    (hdx : (x == ("__debug__" : Str)) = false) (hdy : (y == ("__debug__" : Str)) = false) (hq : σ[j]? = some (some (.ref q)))
    (hbase : attributeBase (.Name y py) "append" X.env (eval (.Name y py) X.env) = eval (.Name y py) X.env)
    (hfew : ((backTo cpos (starEach [.Name x px2] X.env)).all (fun x => !x.1) && (backToKw cpos (keywordEach [] X.env)).all (fun x => x.1.isSome) && decide (([.Name x px2] : List Expr).length + ([] : List Keyword).length + (if ([] : List Keyword).isEmpty then 0 else 1) < 30)) = true)
    (hline : (apos.endLine == cpos.line) = true) (htrees : backTo cpos (starEach [.Name x px2] X.env) = [(false, eval (.Name x px2) X.env)])
    (hsw : swapsWith (.Call (.Attribute (.Name y py) "append" apos) [.Name x px2] [] cpos) none epos.line X.env = pure false)
    (I : Inv X pins σi (upd H' q (.lst (zs ++ out.take i))) s) (hσ : σi = σ ∨ ∃ v ∈ out, σi = σ.set ix (some v)) (hm : i + (m + 1) = out.length) (hg : s.heap.IsGen a g) (hgs : ∃ gs, s.gens[g]? = some gs ∧ Sleeps (model X.prog X.w) X.A.in1 L T it items.toArray m (i + 1) gs) (pr : Priv L T it items.toArray (i + 1) s.heap) (hv : items[i]? = some v) :
    wpAny (model X.prog X.w) X.A (assign (.Name x px) X.env v) (fun _ s2 => wpAny (model X.prog X.w) X.A (execs [.Expr (.Call (.Attribute (.Name y py) "append" apos) [.Name x px2] [] cpos) epos] X.env) (fun f s3 => f = .next ∧ GMid X pins H' a L T it q g out items zs σ ix (i + 1) m s3) E s2) E s := by
  have hil : i < out.length := by omega
  obtain ⟨u, hu, ru⟩ := G.hv.get (i := i) (List.getElem?_eq_getElem hil)
  rw [hv] at hu
  cases hu
  have hqi : σi[j]? = some (some (.ref q)) := by
    rcases hσ with rfl | ⟨w, _, rfl⟩
    · exact hq
    · rw [List.getElem?_set_ne hxy]; exact hq
  have hlt : (zs ++ out.take i).length < sizeLine := by
    have := G.len
    rw [List.length_append, List.length_take]
    omega
  refine turn_append I hN hi hkx hj hky hxy hdx hdy hqi upd_same hlt ru hbase hfew hline htrees hsw fun s' I' hgen keep => ?_
  rw [upd_upd] at I'
  have etake : zs ++ out.take i ++ [out[i]] = zs ++ out.take (i + 1) := by rw [List.take_add_one, List.getElem?_eq_getElem hil, List.append_assoc]; rfl
  rw [etake] at I'
  obtain ⟨gs, e1, e2⟩ := hgs
  obtain ⟨o, nm, qn, ho, r⟩ := hg
  obtain ⟨mm, hn⟩ := pr.ns
  refine ⟨⟨_, I', .inr ⟨out[i], List.getElem_mem hil, ?_⟩⟩, by omega, ⟨o, nm, qn, keep a o G.al (Ne.symm G.qa) ho, r⟩, ⟨gs, by rw [hgen]; exact e1, e2⟩, ⟨pr.iter.at fun o e => keep _ o G.fit.2.1 (Ne.symm G.qit) e, pr.list.at fun o e => keep _ o G.Tl (Ne.symm G.qT) e, ⟨mm, hn.at' fun o e => keep _ o G.fL.2.1 (Ne.symm G.qL) e⟩⟩⟩
  rcases hσ with rfl | ⟨w, _, rfl⟩
  · rfl
  · rw [List.set_set]
end
open Dl in
/-- behind the loop: y's list is longer by all that was handed out, x is the last of it -/
def tForGen (K : PySem.W.Frag) (tg : L2.St → Hp → (Addr → List V → Hp → Prop) → Prop) (ix jy : Nat) : TS := fun D σ H => tg σ H fun T out H' => ∃ q zs, σ[jy]? = some (some (.ref q)) ∧ H' q = some (.lst zs) ∧ zs.length + out.length ≤ sizeLine ∧ (T = q → ∃ o, K.lookup q = some o) ∧
  ∀ σ', (σ' = σ ∨ ∃ v ∈ out, σ' = σ.set ix (some v)) → D.nx σ' (upd H' q (.lst (zs ++ out)))
open Dl in
theorem ps_forGen {X : Cx} {k ix jy : Nat} {e : Expr} {tg : L2.St → Hp → (Addr → List V → Hp → Prop) → Prop} {x y : Str} {px py px2 apos cpos epos fpos : Pos} (hg : PGk X k e tg) (hr : Room (k + 1) X.A) (hc : X.calm = true) (hN : X.N.Nodup) (hi : X.N[ix]? = some x) (hkx : X.env.scope.names.lookup x = some .local) (hj : X.N[jy]? = some y) (hky : X.env.scope.names.lookup y = some .local) (hxy : ix ≠ jy)
    (hdx : (x == ("__debug__" : Str)) = false) (hdy : (y == ("__debug__" : Str)) = false) (hs : ∀ v, foldedSetIterable e X.env v = pure v)
    (hbase : attributeBase (.Name y py) "append" X.env (eval (.Name y py) X.env) = eval (.Name y py) X.env)
    (hfew : ((backTo cpos (starEach [.Name x px2] X.env)).all (fun x => !x.1) && (backToKw cpos (keywordEach [] X.env)).all (fun x => x.1.isSome) && decide (([.Name x px2] : List Expr).length + ([] : List Keyword).length + (if ([] : List Keyword).isEmpty then 0 else 1) < 30)) = true)
    (hline : (apos.endLine == cpos.line) = true) (htrees : backTo cpos (starEach [.Name x px2] X.env) = [(false, eval (.Name x px2) X.env)])
    (hsw : swapsWith (.Call (.Attribute (.Name y py) "append" apos) [.Name x px2] [] cpos) none epos.line X.env = pure false) :
    PS X (.For (.Name x px) e [.Expr (.Call (.Attribute (.Name y py) "append" apos) [.Name x px2] [] cpos) epos] [] fpos) (tForGen X.K tg ix jy) := by
  refine ⟨fun pins s σ H D I h => ?_⟩
  refine wpAny_For (wpAny_mono (hg.run pins s σ H _ I h) (fun u s1 ⟨H1, sc, I1, gm⟩ => ?_) fun _ _ x => x) hs
  obtain ⟨a, g, c, L, rfl, a1, a2, l1, l2, la, hgen, hgs, hos, hb, hl, hk, hrun⟩ := gm
  refine wpAny_pyIter_gen hgen ?_
  have hh : X.A.handled = none := hr.hd
  have hroom : X.A.depth < recursionLimit := by have := hr.dp; omega
  have room1 : Room k X.A.in1 := ⟨hr.hd, by have := hr.dp; show X.A.depth + 3 * k + 5 < _; omega, by have := hr.un; show X.A.units + 1 + 16 * k + 200 < _; omega⟩
  have nilch : ∀ b ∈ ([] : List Addr), (b ∈ X.ex ∨ X.s_0.heap.objs.size ≤ b) ∧ b ≠ X.env.locals ∧ (∀ x c, X.env.cells.lookup x = some c → c ≠ b) ∧ ∀ p ∈ X.pn ++ pins, p.1 ≠ b := fun b z => by simp at z
  have hgl : g + 1 ≤ s1.gens.size := (Array.getElem?_eq_some_iff.mp hgs).1
  refine codeAny_forLoop_any (fun n s' => (n = sizeLine + 2 ∧ s' = s1) ∨ ∃ m i T it H' out items q zs, n = m + 1 ∧ GStat X pins H' a L T it q out items zs ∧ σ[jy]? = some (some (.ref q)) ∧ GMid X pins H' a L T it q g out items zs σ ix i m s' ∧
    ∀ σ', (σ' = σ ∨ ∃ v ∈ out, σ' = σ.set ix (some v)) → D.nx σ' (upd H' q (.lst (zs ++ out)))) ?_ (sizeLine + 2) (.inl ⟨rfl, rfl⟩)
  rintro n s' (⟨rfl, rfl⟩ | ⟨m, i, T, it, H', out, items, q, zs, rfl, G, hq, mid, nx⟩)
  · refine wpAny_gsz (n := g + 1) hgl (next_F hh hl hroom hgen hgs (.inl ⟨c, rfl, hrun X.A.in1 [] (s'.setGen g .running) room1 I1.ok.frames (fun b o e => e) hos (allBare_setGen hb rfl) fun p hp => (List.not_mem_nil hp).elim⟩) (fun x s₁ hΦ => ?_) fun v g' l k c' p fs s₁ hΦ => ?_)
    · rcases hΦ with ⟨e, T, H', ff⟩ | ⟨_, _, _, _, _, _, _, _, _, _, _, _, e, _⟩
      · cases e
        refine ⟨rfl, fun h' hk' _ => ?_⟩
        obtain ⟨q, zs, hq, Hq, hlen, hT, nx⟩ := ff.q
        have z := nx σ (.inl rfl)
        rw [List.append_nil, upd_eta Hq] at z
        exact wpAny_execs_nil ⟨σ, H', I1.call' (s' := { s₁.setGen g .finished with heap := h' }) ff.os (ff.un.trans (Un.kept hk')) (ff.hok.kept hk') (allBare_setGen ff.bare rfl) nilch, z⟩
      · cases e
    · rcases hΦ with ⟨e, _⟩ | ⟨v2, g2, l3, k2, c2, p2, fs2, T, it, H', out, items, e, hqu, ff, hT, nit, hv, hv0, Tit, Lit, LT, ait, hit, hex, pr1, hsl⟩
      · cases e
      · cases e
        refine ⟨hqu, fun hsz => ?_⟩
        refine wpAny_of_eq (rfl : letOwnedTupleGo (.Name x px) (.ref a) v = pure ()) ?_
        obtain ⟨q, zs, hq, Hq, hlen, hTq, nx⟩ := ff.q
        have I2 : Inv X pins σ H' (s₁.setGen g (End.genState (.susp v g' l k c' p fs))) := I1.call' (s' := s₁.setGen g (End.genState (.susp v g' l k c' p fs))) ff.os ff.un ff.hok (allBare_setGen ff.bare (End.bare_of_quiet hqu)) nilch
        have hsz1 : g < s₁.gens.size := by
          have q : (s₁.setGen g (End.genState (.susp v g' l k c' p fs))).gens.size = s₁.gens.size := setGen_size _ _ _
          have hsz' : g + 1 ≤ (s₁.setGen g (End.genState (.susp v g' l k c' p fs))).gens.size := hsz
          omega
        have h0 : 0 < items.length := (List.getElem?_eq_some_iff.mp hv0).1
        have hlen2 : items.length = out.length := hv.length.symm
        have G : GStat X pins H' a L T it q out items zs := by
          refine ⟨hv, Hq, hlen, I1.fpOk l1 ff.nL, I1.fpOk hit nit, fun e => ?_, fun e => ?_, la, ait, ?_, fun e => ?_⟩
          · obtain ⟨o, ho⟩ := hTq e.symm
            have z := (I2.bs q o (I2.ok.mod.kin q o ho)).2
            rw [Hq] at z
            cases z
          · have z := ff.na
            rw [← e, Hq] at z
            cases z
          · exact Nat.ne_of_gt (Nat.lt_of_lt_of_le I1.lt a1)
          · obtain ⟨m4, n4, _⟩ := id I2.loc
            obtain ⟨o, es, ep, ho, hdd, _⟩ := n4
            obtain ⟨o', ho', _, n', hd'⟩ := pr1.list
            have ho2 : s₁.heap.get? X.env.locals = some o := ho
            rw [← e, ho'] at ho2
            cases ho2
            rw [hd'] at hdd
            cases hdd
        refine wpAny_mono (after_yield (i := 0) (m := items.length - 1) G hN hi hkx hj hky hxy hdx hdy hq hbase hfew hline htrees hsw (by rw [List.take_zero, List.append_nil, upd_eta Hq]; exact I2) (.inl rfl) (by omega) ff.isg ⟨_, setGen_at hsz1, hsl⟩ pr1 hv0) (fun _ s3 h3 => wpAny_mono h3 (fun f s4 ⟨e, mid⟩ => ?_) fun _ _ x => x) fun _ _ x => x
        subst e
        exact ⟨items.length - 1 + 1, by omega, .inr ⟨items.length - 1, 1, T, it, H', out, items, q, zs, rfl, G, hq, mid, nx⟩⟩
  · obtain ⟨σi, J, hσ⟩ := mid.st
    obtain ⟨gs, hgs2, hsl⟩ := mid.gen
    have hgl2 : g + 1 ≤ s'.gens.size := (Array.getElem?_eq_some_iff.mp hgs2).1
    have hi2 := mid.sum
    cases m with
    | zero =>
      obtain ⟨kk, l, c0, p, fs, cl, rfl, hrun2⟩ := hsl
      refine next_F hh J.nolimit hroom mid.isg hgs2 (.inr ⟨kk, l, c0, p, fs, cl, rfl, hrun2 (s'.setGen g .running) mid.pr⟩) (fun x s₁ hΦ => ?_) fun v g' l k c' p fs s₁ hΦ => ?_
      · obtain ⟨e, h1, tk, rfl, kp⟩ := hΦ
        cases e
        refine ⟨rfl, fun h' hk' => ?_⟩
        have J1 := J.turnedL (h' := h1) (t' := tk) (ch := [L, it]) (fun b o hb e => kp b o (fun z => hb (by simp [z])) (fun z => hb (by simp [z])) e) (G.fp _)
        have J2 := J1.kept (h' := h') (t' := tk) hk'
        have z := nx σi hσ
        have ei : i = out.length := by omega
        rw [ei, List.take_length] at J2
        exact wpAny_execs_nil ⟨σi, _, inv_gens J2 (allBare_setGen (allBare_setGen J.bare rfl) rfl), z⟩
      · obtain ⟨e, _⟩ := hΦ
        cases e
    | succ m =>
      obtain ⟨kk, l, c0, p, fs, cl, rfl, hrun2⟩ := hsl
      refine wpAny_gsz (n := g + 1) hgl2 (next_F hh J.nolimit hroom mid.isg hgs2 (.inr ⟨kk, l, c0, p, fs, cl, rfl, hrun2 (s'.setGen g .running) mid.pr⟩) (fun x s₁ hΦ => ?_) fun v g' l k c' p fs s₁ hΦ => ?_)
      · obtain ⟨_, _, _, _, _, _, _, e, _⟩ := hΦ
        cases e
      · obtain ⟨_, _, _, _, _, _, _, e, hqu, hvi, ⟨h1, tk, rfl, kp⟩, pr1, hsl'⟩ := hΦ
        cases e
        refine ⟨hqu, fun hsz => ?_⟩
        refine wpAny_of_eq (rfl : letOwnedTupleGo (.Name _ px) (.ref a) v = pure ()) ?_
        have J1 := J.turnedL (h' := h1) (t' := tk) (ch := [L, it]) (fun b o hb e => kp b o (fun z => hb (by simp [z])) (fun z => hb (by simp [z])) e) (G.fp _)
        have hb2 := allBare_setGen (g := g) (allBare_setGen (g := g) (x := .running) J.bare rfl) (End.bare_of_quiet hqu)
        have J3 := inv_gens J1 hb2
        have hsz1 : g < ((s'.setGen g .running).gens).size := by
          rw [setGen_size]
          exact hgl2
        obtain ⟨o, nm, qn, ho, r⟩ := mid.isg
        refine wpAny_mono (after_yield (i := i) (m := m) G hN hi hkx hj hky hxy hdx hdy hq hbase hfew hline htrees hsw J3 hσ (by omega) ⟨o, nm, qn, kp a o (Ne.symm G.La) G.ait ho, r⟩ ⟨_, setGen_at hsz1, hsl'⟩ pr1 (by simpa using hvi)) (fun _ s3 h3 => wpAny_mono h3 (fun f s4 ⟨e, mid⟩ => ?_) fun _ _ x => x) fun _ _ x => x
        subst e
        exact ⟨m + 1, by omega, .inr ⟨m, i + 1, T, it, H', out, items, q, zs, rfl, G, hq, mid, nx⟩⟩
end Gz

set_option Elab.async false
set_option linter.all false
set_option maxRecDepth 100000
set_option maxHeartbeats 2000000
/-! D50: for x in f(..): y.append(x), over data. -/
namespace Dl
open PySem PySem.Spec PyProof.Rows L2 Gz
section
variable {M : Mach} {X : Cx} {N : List Str} {sc : Scope} {vb lb gb : Str → Bool} {B : Bs} {G : Sl} {O : Own} {e : Expr} {es : List Expr} {pos p : Pos} {f x y : Str} {k : Nat} {sp : GSp} {E : EndsD}
theorem ws_forGen {ks : List Str} {kws : List Keyword} {px py px2 apos cpos epos fpos : Pos} {ix jy : Nat} {fs : D → Sl} {q : Addr} {ys od : List D} {ds zs : List D} {O2 : Own} (C : Cxt M X N sc vb lb gb) (gf : GGenK M f ks k sp) (hr : Room (k + 1) X.A) (hg : gb f = true) (hix : N[ix]? = some x) (hjy : N[jy]? = some y) (hxy : ix ≠ jy) (hs : SetAt N G x ix fs) (hy : G[jy]? = some (some (.obj q)))
    (hkx : sc.names.lookup x = some .local) (hky : sc.names.lookup y = some .local) (hdx : (x == ("__debug__" : Str)) = false) (hdy : (y == ("__debug__" : Str)) = false)
    (hm : (q, OV.lst ys) ∈ O) (ho : OSet O q (.lst (ys ++ od)) O2) (ha : PAv X B G O (e :: es) ds) (hk : WK X B G O kws fun zs' O' => zs' = zs ∧ O' = O) (hzl : zs.length = ks.length) (hsp : sp (ds ++ zs) od) (hlen : ys.length + od.length ≤ 1000000)
    (q1 : E.nx G O2) (q2 : ∀ d ∈ od, E.nx (fs d) O2)
    (hall : (backToKw pos (keywordEach kws X.env)).all (·.1.isSome) = true := by rfl) (hks : (backToKw pos (keywordEach kws X.env)).filterMap (·.1) = ks := by rfl)
    (he : starEach (e :: es) X.env = (false, eval e X.env) :: starEach es X.env := by exact star_cons rfl) (hpl : ((backTo pos (starEach (e :: es) X.env)).any (·.1) || (backToKw pos (keywordEach kws X.env)).any (·.1.isNone)) = false := by rfl)
    (hfs : ∀ v, foldedSetIterable (.Call (.Name f p) (e :: es) kws pos) X.env v = pure v := by intro _; rfl)
    (hbase : attributeBase (.Name y py) "append" X.env (eval (.Name y py) X.env) = eval (.Name y py) X.env := by rfl)
    (hfew : ((backTo cpos (starEach [.Name x px2] X.env)).all (fun x => !x.1) && (backToKw cpos (keywordEach [] X.env)).all (fun x => x.1.isSome) && decide (([.Name x px2] : List Expr).length + ([] : List Keyword).length + (if ([] : List Keyword).isEmpty then 0 else 1) < 30)) = true := by rfl)
    (hline : (apos.endLine == cpos.line) = true := by rfl) (htrees : backTo cpos (starEach [.Name x px2] X.env) = [(false, eval (.Name x px2) X.env)] := by rfl)
    (hsw : swapsWith (.Call (.Attribute (.Name y py) "append" apos) [.Name x px2] [] cpos) none epos.line X.env = pure false := by rfl) :
    WS X B G O (.For (.Name x px) (.Call (.Name f p) (e :: es) kws pos) [.Expr (.Call (.Attribute (.Name y py) "append" apos) [.Name x px2] [] cpos) epos] [] fpos) E := fun F σ H S D' kk => by
  obtain rfl := C.hM
  obtain ⟨g, fd, ps, h1, h2, h3, h4⟩ := gf
  have hN : X.N.Nodup := by rw [C.hN]; exact C.nd
  obtain ⟨i1, i2⟩ := hs.ix
  refine semS (ps_forGen (ix := ix) (jy := jy) (pgk_callK h4 (hr.mono (Nat.le_add_right k 1)) (C.gl f hg).1 h1 h2 h3 pa_sem pk_sem hall hks (C.gl f hg).2 he hpl) hr C.calm hN (by rw [C.hN]; exact hix) (by rw [C.hsc]; exact hkx) (by rw [C.hN]; exact hjy) (by rw [C.hsc]; exact hky) hxy hdx hdy hfs hbase hfew hline htrees hsw) ?_
  refine ha F σ H S _ fun vs F1 H1 ds1 O1 S1 e1 r1 p1 => ?_
  obtain ⟨rfl, rfl⟩ := p1
  refine hk F1 σ H1 S1 _ fun zs1 F2 H2 ds2 O2' S2 e2 r2 p2 => ?_
  obtain ⟨rfl, rfl⟩ := p2
  have ej : kwJoin ks vs zs1 = vs ++ zs1 := if_pos (by rw [r2.length, hzl])
  rw [ej]
  refine gpost_run (Φ := fun od' _ => od' = od) S2 ((r1.mono e2).append r2) ⟨od, hsp, by omega, rfl⟩ fun T out F' H' od' S' e' r' hT hl' q' => ?_
  subst q'
  obtain ⟨nF, vsy, hvy, rsy⟩ := S'.own _ hm
  obtain ⟨v, ev, rv⟩ := S'.slot jy _ hy
  cases rv
  refine ⟨q, vsy, ev, hvy, ?_, fun eT => ?_, fun σ' hσ => ?_⟩
  · rw [rsy.length, r'.length]
    exact len_line hlen
  · rw [eT] at hT
    rcases hT with (h | ⟨_, h⟩) | ⟨o, _, _, hkk, _⟩
    · rw [nF] at h; cases h
    · rw [nF] at h; cases h
    · exact ⟨o, hkk⟩
  · have S3 : Sat X.K B G O2 F' σ (upd H' q (.lst (vsy ++ out))) := S'.mut ho (ov := .lst (ys ++ od')) ⟨vsy ++ out, upd_same, rsy.append r'⟩
    rcases hσ with rfl | ⟨v, hv, rfl⟩
    · exact kk.nx G O2 F' _ _ S3 ((e1.trans e2).trans e') q1
    · obtain ⟨n, hn, en⟩ := List.mem_iff_getElem.mp hv
      obtain ⟨d, hd, rd⟩ := r'.get' (List.getElem?_eq_getElem hn)
      rw [en] at rd
      have z := q2 d (List.mem_of_getElem? hd)
      rw [i2] at z
      have ei : ix = _ := nodup_ix C.nd hix i1
      exact kk.nx _ O2 F' _ _ (S3.set rd) ((e1.trans e2).trans e') z
end
end Dl

set_option Elab.async false
set_option linter.all false
set_option maxRecDepth 100000
set_option maxHeartbeats 2000000
/-! D51: a list taken apart into names; xs[::-1] of a list; len of what a call gives. -/
namespace Dl
open PySem PySem.Spec PyProof.Rows L2
section
variable {M : Mach} {X : Cx} {N : List Str} {sc : Scope} {vb lb gb : Str → Bool} {B : Bs} {G : Sl} {O : Own} {a : Expr} {pos p p1 p2 p3 : Pos} {d1 : D} {ds : List D}
theorem wg_unl {ts : List Expr} {j : Nat} {vs : Nat → Prop} {Φ : Sl → Own → Prop} (C : Cxt M X N sc vb lb gb) (h : WGs X B G O ts vs ds Φ) (hn : (assignEach ts X.env).length = ds.length := by rfl) (hst : (assignEach ts X.env).findIdx? (·.1) = none := by rfl) : WG X B G O (.Tuple ts j pos) vs (.lst ds) Φ :=
  fun F σ H v S r Q k => by
    cases r with
    | lst hq rs => exact semG (pg_unl C.calm pgs_sem hn hst) ⟨_, _, rfl, S.ex.seq hq, rs.length, h F σ H _ S rs Q k⟩
theorem pn_rev {k : Nat} (ha : PEv X B G O a d1) (it : ItemsL O d1 ds) : PNv X B G O (.Subscript a (.Slice none none (some (.UnaryOp .USub (.Constant (.int 1) k p1) p2)) p3) pos) ds.reverse := fun F σ H S Q kk =>
  sem (pe_revL pe_sem) (ha F σ H S _ fun v F1 H1 d O1 S1 e1 r1 p1 => by
    obtain ⟨rfl, rfl⟩ := p1
    obtain ⟨l, vs, rfl, rs, hq⟩ := itemsL_ok S1 r1 it
    exact ⟨l, vs, rfl, hq, fun p hp => kk p _ F1 _ _ (S1.allocOwn hp (ov := .lst ds.reverse) ⟨vs.reverse, upd_same, rs.reverse⟩) e1 ⟨rfl, rfl⟩⟩)
end
end Dl

set_option Elab.async false
set_option linter.all false
set_option maxRecDepth 100000
set_option maxHeartbeats 2000000
/-! D52: `[(.., ..) for a, b in f(..)]` of a generator def: the elements at the machine's level, in which the table of generators is kept. -/
namespace Gz
open PySem PySem.Spec PyProof.Rows L2 GenW
open Sem (wp)
/-- an element made of the pair's numbers and of a free name's -/
def QElt (P : Program) (w : World) (ce : Env) (elt : Expr) (xa xb xf : Str) (f : Int → Int → Int → Int × Int) : Prop :=
  ∀ (A : Around) (E : Value → Shared → Prop) (s : Shared) (m : Str → Option Value) (i j n : Int) (ti tj tf : Tok) (c : Addr) (Q : Value → Shared → Prop),
    s.heap.Ns ce.locals m → m xa = some (.int i ti) → m xb = some (.int j tj) → ce.cells.lookup xf = some c → s.heap.IsCell c (some (.int n tf)) → IntMulOk i n → IntMulOk j n →
    (∀ tk us, Vals [.int (f i j n).1, .int (f i j n).2] us → Q (.ref s.heap.objs.size) { s with toks := tk, heap := s.heap.push { cls := .type "tuple", data := .seq us.toArray } }) →
    wpAny (model P w) A (eval elt ce) Q E s
section
variable {P : Program} {w : World} {ce : Env} {xa xb xf : Str} {p1 p2 p3 p4 p5 : Pos} {k : Nat}
theorem qelt_second (hk : ce.scope.kind = .function) (ha : ce.kindOf xa = some .local) (hb : ce.kindOf xb = some .local) (hf : ce.kindOf xf = some .cell) (da : (xa == ("__debug__" : Str)) = false) (db : (xb == ("__debug__" : Str)) = false) (df : (xf == ("__debug__" : Str)) = false) :
    QElt P w ce (.Tuple [.Name xa p1, .BinOp (.Name xb p2) .Mult (.Name xf p3) p4] k p5) xa xb xf (fun i j n => (i, j * n)) := by
  intro A E s m i j n ti tj tf c Q hn ma mb hc hv b1 b2 q
  refine wpAny_Tuple (wpAny_items_cons (wpAny_Name (wpAny_loadName_local hk ha hn ma ?_) da))
  refine wpAny_items_cons (wpAny_BinOp (wpAny_Name (wpAny_loadName_local hk hb hn mb ?_) db))
  refine wpAny_Name (wpAny_loadName_cell hk hf hc hv ?_) df
  refine PySem.AutoIntOps.mul_0 ?_ b2
  refine wpAny_items_nil ⟨by show 2 ≤ sizeLine; decide, ?_⟩
  exact q _ [.int i ti, .int (j * n) s.toks] (.cons ⟨_, rfl⟩ (.cons ⟨_, rfl⟩ .nil))
theorem qelt_first (hk : ce.scope.kind = .function) (ha : ce.kindOf xa = some .local) (hb : ce.kindOf xb = some .local) (hf : ce.kindOf xf = some .cell) (da : (xa == ("__debug__" : Str)) = false) (db : (xb == ("__debug__" : Str)) = false) (df : (xf == ("__debug__" : Str)) = false) :
    QElt P w ce (.Tuple [.BinOp (.Name xa p2) .Mult (.Name xf p3) p4, .Name xb p1] k p5) xa xb xf (fun i j n => (i * n, j)) := by
  intro A E s m i j n ti tj tf c Q hn ma mb hc hv b1 b2 q
  refine wpAny_Tuple (wpAny_items_cons (wpAny_BinOp (wpAny_Name (wpAny_loadName_local hk ha hn ma ?_) da)))
  refine wpAny_Name (wpAny_loadName_cell hk hf hc hv ?_) df
  refine PySem.AutoIntOps.mul_0 ?_ b1
  refine wpAny_items_cons (wpAny_Name (wpAny_loadName_local hk hb hn mb ?_) db)
  refine wpAny_items_nil ⟨by show 2 ≤ sizeLine; decide, ?_⟩
  exact q _ [.int (i * n) s.toks, .int j tj] (.cons ⟨_, rfl⟩ (.cons ⟨_, rfl⟩ .nil))
end
/-- a list that stood untracked is tracked from now on -/
theorem inv_adopt {X : Cx} {pins : List (Addr × Obj)} {σ : L2.St} {H : Hp} {s : Shared} {D : Addr} {ys : List V} {its : List Value} {n : Nat} (I : Inv X pins σ H s) (f : FpOk X pins H D) (e : s.heap.get? D = some { cls := .type "list", data := .seq its.toArray n }) (r : Vals ys its) (hz : ys.length ≤ sizeLine) :
    Inv X pins σ (upd H D (.lst ys)) s := by
  obtain ⟨f0, f1, f2, f3, f4, f5⟩ := f
  have nD : ∀ b u, H b = some u → b ≠ D := fun b u q z => by rw [z, f0] at q; cases q
  refine ⟨I.ok, I.os, I.bare, ⟨I.base.keep, I.base.slot, fun b o e1 n1 hx => ?_, I.base.there, fun b xs q => ?_, fun b o u q => ?_, fun b ps q => ?_⟩, I.loc, I.cell, ?_, fun y c q => ?_, fun p hp => ?_, fun b u q => ?_, I.len⟩
  · have hne : b ≠ D := fun z => by
      subst z
      rcases f3 with z | z
      · exact hx z
      · exact absurd (Nat.lt_of_lt_of_le (Heap.lt_size e1) z) (Nat.lt_irrefl _)
    rw [upd_ne hne]
    exact I.base.free b o e1 n1 hx
  · have z := I.base.tups b xs q
    rw [upd_ne (nD b _ z)]
    exact z
  · have z := I.base.frzs b o u q
    rw [upd_ne (nD b _ z)]
    exact z
  · obtain ⟨more, z⟩ := I.base.tbls b ps q
    exact ⟨more, by rw [upd_ne (nD b _ z)]; exact z⟩
  · rw [upd_ne (Ne.symm f1)]
    exact I.free
  · rw [upd_ne (f4 y c q)]
    exact I.freeC y c q
  · obtain ⟨q1, q2, q3⟩ := I.pin p hp
    exact ⟨q1, by rw [upd_ne (f5 p hp)]; exact q2, q3⟩
  · by_cases hb : b = D
    · subst hb
      rw [upd_same] at q
      cases q
      exact ⟨hz, its, n, r, e⟩
    · rw [upd_ne hb] at q
      exact (I.hok b u q).stay (fun c v _ q => q) (fun c q => by rw [upd_ne (nD c _ q)]; exact q) fun c xs q => by rw [upd_ne (nD c _ q)]; exact q
/-- a generator's item is no owned tuple -/
theorem wpAny_letOwned_gen {prog : Program} {w : World} {A : Around} {E : Value → Shared → Prop} {s : Shared} {elts : List Expr} {x1 : Nat} {pos : Pos} {a T : Addr} {g : Nat} {Q : Unit → Shared → Prop} (hg : s.heap.IsGen a g) (hQ : Q () s) :
    wpAny (model prog w) A (letOwnedTupleGo (.Tuple elts x1 pos) (.ref a) (.ref T)) Q E s := by
  obtain ⟨o, nm, qn, ho, hc, hd, _⟩ := hg
  unfold letOwnedTupleGo
  refine wpAny_bind (wpAny_load ho ?_)
  rw [hc, hd]
  show wpAny _ A (if (["enumerate", "zip", "dict_itemiterator", "dict_reverseitemiterator", "odict_iterator", "itertools.zip_longest", "itertools.pairwise"].contains "generator" && (#[.int g 0, nm, qn] : Array Value)[0]? == some (rawInt T)) = true then _ else _) Q E s
  rw [if_neg (by
    intro h
    rw [show (["enumerate", "zip", "dict_itemiterator", "dict_reverseitemiterator", "odict_iterator", "itertools.zip_longest", "itertools.pairwise"].contains "generator") = false from by decide, Bool.false_and] at h
    cases h)]
  exact wpAny_pure hQ
end Gz

set_option Elab.async false
set_option linter.all false
set_option maxRecDepth 100000
set_option maxHeartbeats 2000000
/-! D53: `[(.., ..) for a, b in f(..)]` of a generator def: a turn. -/
namespace Gz
open PySem PySem.Spec PyProof.Rows L2 GenW
open Sem (wp)
structure LStat (a C D L T it : Addr) (out : List V) (items : List Value) : Prop where
  hv : Vals out items
  CD : C ≠ D
  CL : C ≠ L
  Ci : C ≠ it
  CT : C ≠ T
  Ca : C ≠ a
  DL : D ≠ L
  Di : D ≠ it
  DT : D ≠ T
  Da : D ≠ a
  La : L ≠ a
  ai : a ≠ it
/-- asleep behind the i-th item, m are left -/
structure LMid (X : Cx) (pins : List (Addr × Obj)) (σ : L2.St) (a C D L T it : Addr) (g : Nat) (out : List V) (items : List Value) (W : Nat → Hp → Prop) (i m : Nat) (s : Shared) : Prop where
  st : ∃ Hc, Inv X pins σ Hc s ∧ W i Hc ∧ ∀ b ∈ [C, L, it], FpOk X pins Hc b
  sum : i + m = out.length
  isg : s.heap.IsGen a g
  gen : ∃ gs, s.gens[g]? = some gs ∧ Sleeps (model X.prog X.w) X.A.in1 L T it items.toArray m i gs
  pr : Priv L T it items.toArray i s.heap
  ns : ∃ m, s.heap.Ns C m
/-- what a turn does to the heap -/
def TurnW (X : Cx) (D : Addr) (out : List V) (n : Int) (f : Int → Int → Int → Int × Int) (W : Nat → Hp → Prop) : Prop :=
  ∀ (i : Nat) (Hc : Hp) (v : V), W i Hc → out[i]? = some v → ∃ t i1 j1 acc, v = .ref t ∧ SqT X.K Hc t [.int i1, .int j1] ∧ IntMulOk i1 n ∧ IntMulOk j1 n ∧ Hc D = some (.lst acc) ∧ acc.length < sizeLine ∧
    ∀ tn, Hc tn = none → W (i + 1) (upd (upd Hc tn (.tup [.int (f i1 j1 n).1, .int (f i1 j1 n).2])) D (.lst (acc ++ [.ref tn])))
section
variable {X : Cx} {pins : List (Addr × Obj)} {σ : L2.St} {a C D L T it : Addr} {g : Nat} {out : List V} {items : List Value} {W : Nat → Hp → Prop}
theorem lturn {ce : Env} {elt : Expr} {xa xb xf : Str} {pa pb pt : Pos} {kt : Nat} {f : Int → Int → Int → Int × Int} {i m jf : Nat} {n : Int} {s : Shared} {v : Value} {Hc : Hp} {E : Value → Shared → Prop} {R R0 : Shared → Prop} (G : LStat a C D L T it out items)
    (hh : X.A.handled = none) (I : Inv X pins σ Hc s) (w : W i Hc) (fp : ∀ b ∈ [C, L, it], FpOk X pins Hc b) (hm : i + (m + 1) = out.length) (hg : s.heap.IsGen a g) (hgs : ∃ gs, s.gens[g]? = some gs ∧ Sleeps (model X.prog X.w) X.A.in1 L T it items.toArray m (i + 1) gs)
    (pr : Priv L T it items.toArray (i + 1) s.heap) (ns : ∃ m, s.heap.Ns C m) (hv : items[i]? = some v) (tw : TurnW X D out n f W) (hn : σ[jf]? = some (some (.int n))) (hif : X.N[jf]? = some xf) (hkf : X.env.scope.names.lookup xf = some .cell)
    (hcf : ce.cells.lookup xf = some ((X.env.cells.lookup xf).getD 0)) (cL : ce.locals = C) (hcls : (ce.scope.kind == .class || (ce.scope.kind == .module && ce.locals != ce.globals)) = false) (ka : ce.kindOf xa = some .local) (kb : ce.kindOf xb = some .local) (hab : xa ≠ xb) (qe : QElt X.prog X.w ce elt xa xb xf f) (hR : ∀ s5, LMid X pins σ a C D L T it g out items W (i + 1) m s5 → R s5) :
    wpAny (model X.prog X.w) X.A (letOwnedTupleGo (.Tuple [.Name xa pa, .Name xb pb] kt pt) (.ref a) v) (fun _ s1 => wpAny (model X.prog X.w) X.A (assign (.Tuple [.Name xa pa, .Name xb pb] kt pt) ce v) (fun _ s2 =>
      wpAny (model X.prog X.w) X.A (forIn ([] : List Expr) true fun c r => if r = true then do let ok ← isTrue c ce (eval c ce); pure (ForInStep.yield ok) else pure (ForInStep.yield r)) (fun ok s3 =>
        if ok = true then wpAny (model X.prog X.w) X.A (eval elt ce) (fun x s4 => wpAny (model X.prog X.w) X.A (call (.builtin "list.append") [.ref D, x]) (fun _ s5 => R s5) E s4) E s3 else R0 s3) E s2) E s1) E s := by
  have hil : i < out.length := by omega
  obtain ⟨u, hu, ru⟩ := G.hv.get (i := i) (List.getElem?_eq_getElem hil)
  rw [hv] at hu
  cases hu
  obtain ⟨t, i1, j1, acc, ev, hq, b1, b2, hD, hacc, hW⟩ := tw i Hc _ w (List.getElem?_eq_getElem hil)
  rw [ev] at ru
  cases ru
  refine wpAny_letOwned_gen hg ?_
  obtain ⟨its, rv, ht, hz⟩ := I.tuple hq
  obtain ⟨va, vb, rfl, ⟨ti, rfl⟩, ⟨tj, rfl⟩⟩ : ∃ va vb, its = [va, vb] ∧ (∃ ti, va = .int i1 ti) ∧ ∃ tj, vb = .int j1 tj := by
    cases rv with
    | cons r1 r2 =>
      cases r2 with
      | cons r2 r3 =>
        cases r3
        exact ⟨_, _, rfl, r1, r2⟩
  refine wpAny_assign_Tuple hh ht rfl rfl fun h1 hx1 => ?_
  have old1 : ∀ b o, s.heap.get? b = some o → h1.get? b = some o := fun b o e => hx1 b o (Nat.ne_of_lt (Heap.lt_size e)) e
  have I1 : Inv X pins σ Hc { s with heap := h1 } := I.kept (t' := s.toks) old1
  obtain ⟨m0, n0⟩ := ns
  have n1 : h1.Ns ce.locals m0 := cL ▸ n0.at' fun o e => old1 _ o e
  show wpAny _ _ (do holding [Value.int j1 tj] (assign (.Name xa pa) ce (Value.int i1 ti)); do holding [] (assign (.Name xb pb) ce (Value.int j1 tj)); pure ()) _ _ _
  refine wpAny_bind (wpAny_holding (wpAny_assign_Name (wpAny_storeName_local ka n1 (fun h2 n2 s2 => ?_) hcls)))
  refine wpAny_bind (wpAny_holding (wpAny_assign_Name (wpAny_storeName_local kb n2 (fun h3 n3 s3 => wpAny_pure ?_) hcls)))
  have fC := fp C List.mem_cons_self
  have s2' : ∀ b o, b ≠ C → h1.get? b = some o → h2.get? b = some o := fun b o hb e => (s2.2 b (by rw [cL]; exact hb)).trans e
  have s3' : ∀ b o, b ≠ C → h2.get? b = some o → h3.get? b = some o := fun b o hb e => (s3.2 b (by rw [cL]; exact hb)).trans e
  have I2 : Inv X pins σ Hc { s with heap := h3, toks := s.toks + 1 + 1 } := Inv.turnedL (s := { s with heap := h1 }) (h' := h3) (t' := s.toks + 1 + 1) (ch := [C]) I1 (fun b o hb e => s3' b o (by simpa using hb) (s2' b o (by simpa using hb) e)) fun b hb => by
    rw [List.mem_singleton.mp hb]
    exact fC
  refine wpAny_tests_nil ?_
  rw [if_pos rfl]
  -- the free name
  obtain ⟨mL, nL, lL⟩ := id I2.loc
  obtain ⟨un, run, lk⟩ := lL jf xf _ hif hn (.inr (.inl hkf))
  obtain ⟨tf, rfl⟩ := run
  have hcell : ∃ c, X.env.cells.lookup xf = some c ∧ h3.IsCell c (some (.int n tf)) := by
    rcases lk with ⟨k1, _⟩ | ⟨_, c, e1, e2⟩
    · rw [show X.env.kindOf xf = X.env.scope.names.lookup xf from rfl, hkf] at k1
      cases k1
    · exact ⟨c, e1, e2⟩
  obtain ⟨c, e1, e2⟩ := hcell
  rw [e1] at hcf
  refine qe X.A E _ _ i1 j1 n ti tj tf c _ n3 (by simp [hab]) (by simp) hcf e2 b1 b2 fun tk us hus => ?_
  -- the new tuple
  have hp := I2.hok.fresh (Nat.le_refl _)
  have up3 : ∀ b o, b ≠ C → s.heap.get? b = some o → h3.get? b = some o := fun b o hb e => s3' b o hb (s2' b o hb (old1 b o e))
  have I3 := I2.laid (t' := tk) (a := h3.objs.size) (o := .tup [.int (f i1 j1 n).1, .int (f i1 j1 n).2]) (h' := h3.push { cls := .type "tuple", data := .seq us.toArray }) (fun b u q => Heap.get?_push_of_some _ q) (Nat.le_refl _) ⟨by show 2 ≤ sizeLine; decide, us, hus, IsTup.new _ _⟩
  have Dt : D ≠ h3.objs.size := fun e => by
    have z : Hc h3.objs.size = none := hp
    rw [← e, hD] at z
    cases z
  have hD3 : (upd Hc h3.objs.size (.tup [.int (f i1 j1 n).1, .int (f i1 j1 n).2])) D = some (.lst acc) := by rw [upd_ne Dt]; exact hD
  obtain ⟨z, its3, n4, rv3, hlen3, e3⟩ := I3.lstM hD3
  refine call_meets PySem.F.slot_list_append ⟨_, e3, rfl⟩ PySem.F.entry_list_append (PySem.F.args_list_append_2 _ _) (PySem.list_append D its3.toArray n4 (.ref h3.objs.size) (by rw [List.size_toArray]; omega)) ⟨e3, ?_⟩
  have I4 := I3.lset (its' := its3 ++ [Value.ref h3.objs.size]) (f := fun v => v.push (Value.ref h3.objs.size)) (ys := acc ++ [.ref h3.objs.size]) (t' := tk) hD3 e3 (by simp) (rv3.append (.cons (show L2.RelV (.ref h3.objs.size) (.ref h3.objs.size) from rfl) .nil)) (by rw [List.length_append]; show acc.length + 1 ≤ sizeLine; omega)
  have up5 : ∀ b o, b ≠ C → b ≠ D → s.heap.get? b = some o → ((h3.push { cls := .type "tuple", data := .seq us.toArray }).update D (Obj.mapSeq fun v => v.push (Value.ref h3.objs.size))).get? b = some o := fun b o hC hDb e =>
    (Heap.get?_update_other _ _ (Ne.symm hDb)).trans (Heap.get?_push_of_some _ (up3 b o hC e))
  have lt3 : ∀ b o, b ≠ C → s.heap.get? b = some o → b ≠ h3.objs.size := fun b o hb e => Nat.ne_of_lt (Heap.lt_size (up3 b o hb e))
  obtain ⟨oC, hoC, _⟩ : ∃ o, h3.get? C = some o ∧ True := by
    obtain ⟨o, _, _, e, _⟩ := n3
    rw [cL] at e
    exact ⟨o, e, trivial⟩
  have CtN : C ≠ h3.objs.size := Nat.ne_of_lt (Heap.lt_size hoC)
  obtain ⟨oI, hoI, _⟩ := pr.iter
  obtain ⟨mP, hP⟩ := pr.ns
  obtain ⟨oL, hoL⟩ : ∃ o, s.heap.get? L = some o := by
    obtain ⟨o, _, _, e, _⟩ := hP
    exact ⟨o, e⟩
  obtain ⟨oG, nm, qn, hoG, rG⟩ := hg
  obtain ⟨gs, g1, g2⟩ := hgs
  refine hR _ ⟨⟨_, I4, hW _ hp, fun b hb => ?_⟩, by omega, ⟨oG, nm, qn, up5 a oG (Ne.symm G.Ca) (Ne.symm G.Da) hoG, rG⟩, ⟨gs, g1, g2⟩, ⟨pr.iter.at fun o e => up5 _ o (Ne.symm G.Ci) (Ne.symm G.Di) e, pr.list.at fun o e => up5 _ o (Ne.symm G.CT) (Ne.symm G.DT) e, ⟨mP, hP.at' fun o e => up5 _ o (Ne.symm G.CL) (Ne.symm G.DL) e⟩⟩, ⟨_, (cL ▸ n3).at' fun o e => (Heap.get?_update_other _ _ (Ne.symm G.CD)).trans (Heap.get?_push_of_some _ e)⟩⟩
  have fb := fp b hb
  refine ⟨?_, fb.2⟩
  simp only [List.mem_cons, List.not_mem_nil, or_false] at hb
  rcases hb with rfl | rfl | rfl
  · rw [upd_ne G.CD, upd_ne CtN]
    exact fb.1
  · rw [upd_ne (Ne.symm G.DL), upd_ne (lt3 _ _ (Ne.symm G.CL) hoL)]
    exact fb.1
  · rw [upd_ne (Ne.symm G.Di), upd_ne (lt3 _ _ (Ne.symm G.Ci) hoI)]
    exact fb.1
end
end Gz

set_option Elab.async false
set_option linter.all false
set_option maxRecDepth 100000
set_option maxHeartbeats 2000000
/-! D54: y = [(.., ..) for a, b in f(..)], f a generator def. -/
namespace Gz
open PySem PySem.Spec PyProof.Rows L2 GenW
open Sem (wp)
def tLcG (X : Cx) (tg : L2.St → Hp → (Addr → List V → Hp → Prop) → Prop) (jf : Nat) (f : Int → Int → Int → Int × Int) : TE := fun σ H Q => tg σ H fun _ out H' => ∃ n, σ[jf]? = some (some (.int n)) ∧ out.length ≤ sizeLine ∧
  ∀ D, H' D = none → ∃ W : Nat → Hp → Prop, W 0 (upd H' D (.lst [])) ∧ TurnW X D out n f W ∧ ∀ Hc, W out.length Hc → Q (.ref D) Hc
section
variable {X : Cx}
theorem lcg_core {k jf : Nat} {pins : List (Addr × Obj)} {s : Shared} {σ : L2.St} {H : Hp} {Q : VK} {elt iter : Expr} {scope : Scope} {own : List (Str × Nat)} {pos pos' pa pb pt : Pos} {kt : Nat} {xa xb xf : Str} {f : Int → Int → Int → Int × Int} {tg : L2.St → Hp → (Addr → List V → Hp → Prop) → Prop}
    {use : Option (Value → Sem Unit)} {Qf : Value → Shared → Prop} (hN : X.N.Nodup) (I : Inv X pins σ H s) (hg : Dl.PGk X k iter tg) (hr : Room (k + 1) X.A) (ok : BlkOk X.N X.env.scope scope own) (hpc : ∀ h, pushCells h scope.names = h)
    (ka : (relS scope X.env.scope).names.lookup xa = some .local) (kb : (relS scope X.env.scope).names.lookup xb = some .local) (hab : xa ≠ xb) (hif : X.N[jf]? = some xf) (hkf : X.env.scope.names.lookup xf = some .cell)
    (hcf : ∀ n cells, (cellsFrom n scope.names (cloFrom cells scope.names [])).lookup xf = some ((cells.lookup xf).getD 0)) (qe : ∀ ce : Env, ce.scope = relS scope X.env.scope → QElt X.prog X.w ce elt xa xb xf f)
    (hs : ∀ x, foldedSetIterable iter X.env x = pure x) (h : tLcG X tg jf f σ H Q)
    (hRR : ∀ D C s' m H', Inv X pins σ H' s' → Q (.ref D) H' → s'.heap.Ns C m → FpOk X pins H' C → compPost (model X.prog X.w) X.A X.xe use Qf (.ref D) C (.ok .next) s') :
    wpAny (model X.prog X.w) X.A (comprehension (.ListComp elt [⟨.Tuple [.Name xa pa, .Name xb pb] kt pt, iter, [], 0⟩] scope pos) scope X.env pos' (newList []) false (eval iter X.env) use) Qf X.xe s := by
  have hfree : ∀ y ∈ scope.names, y.2 = .free → ∃ c, X.env.cells.lookup y.1 = some c := fun y hy e => by
    rcases ok.free y hy e with k | k
    · exact I.ok.has _ (.inl k)
    · exact I.ok.has _ (.inr k)
  refine wpAny_comprehension_free (use := use) rfl hs (closure_ok hfree) ok.kind (fun y hy e => by rw [ok.uniq y hy, e]) (thn (hg.run pins s σ H _ I h) fun u s1 ⟨H1, sc, I1, gm⟩ => ?_)
  obtain ⟨a, g, c, L, rfl, a1, a2, l1, l2, la, hgen, hgs, hos, hb, hl, hk, hrun⟩ := gm
  refine wpAny_pyIter_gen hgen ?_
  refine wpAny_newObj_type (newEnv_comp ?_) (by show 0 ≤ sizeLine; decide)
  generalize hD : s1.heap.objs.size = D
  generalize hs3 : ({ s1 with heap := s1.heap.push { cls := .type "list", data := .seq ([] : List Value).toArray } } : Shared) = s3
  have h3 : s3.heap = s1.heap.push { cls := .type "list", data := .seq ([] : List Value).toArray } := by rw [← hs3]
  have hD3 : s3.heap.get? D = some { cls := .type "list", data := .seq ([] : List Value).toArray } := by rw [h3, ← hD]; exact Heap.get?_push_size _ rfl
  show codeAny _ _ (.compStart (.ListComp elt [⟨.Tuple [.Name xa pa, .Name xb pb] kt pt, iter, [], 0⟩] scope pos) 0 (.ref a) (.ref D) (compEnvC scope (cellsFrom (s3.heap.objs.size + 1) scope.names (cloFrom X.env.cells scope.names [])) s3.heap.objs.size X.env)) (compPost (model X.prog X.w) X.A X.xe use Qf (.ref D) s3.heap.objs.size) { s3 with heap := pushCells (s3.heap.push { cls := .type "dict", data := .dict #[] }) scope.names }
  rw [hpc]
  have hsz3 : s3.heap.objs.size = D + 1 := by rw [h3, Heap.size_push, hD]
  generalize hC : s3.heap.objs.size = C at hsz3 ⊢
  have kce : (compEnvC scope (cellsFrom (C + 1) scope.names (cloFrom X.env.cells scope.names [])) C X.env).scope = relS scope X.env.scope := rfl
  have cL : (compEnvC scope (cellsFrom (C + 1) scope.names (cloFrom X.env.cells scope.names [])) C X.env).locals = C := rfl
  have ccl : (compEnvC scope (cellsFrom (C + 1) scope.names (cloFrom X.env.cells scope.names [])) C X.env).cells.lookup xf = some ((X.env.cells.lookup xf).getD 0) := hcf (C + 1) X.env.cells
  generalize compEnvC scope (cellsFrom (C + 1) scope.names (cloFrom X.env.cells scope.names [])) C X.env = ce at kce cL ccl ⊢
  have hcls : (ce.scope.kind == .class || (ce.scope.kind == .module && ce.locals != ce.globals)) = false := by
    rw [kce]
    show (scope.kind == .class || (scope.kind == .module && _)) = false
    rw [ok.kind]
    rfl
  have kia : ce.kindOf xa = some .local := by unfold Env.kindOf; rw [kce]; exact ka
  have kib : ce.kindOf xb = some .local := by unfold Env.kindOf; rw [kce]; exact kb
  generalize hs4 : ({ s3 with heap := s3.heap.push { cls := .type "dict", data := .dict #[] } } : Shared) = s4
  have h4 : s4.heap = s3.heap.push { cls := .type "dict", data := .dict #[] } := by rw [← hs4]
  have hD4 : s4.heap.get? D = some { cls := .type "list", data := .seq ([] : List Value).toArray } := by rw [h4]; exact Heap.get?_push_of_some _ hD3
  have hC4 : s4.heap.get? C = some { cls := .type "dict", data := .dict #[] } := by rw [h4, ← hC]; exact Heap.get?_push_size _ rfl
  have up4 : ∀ b o, s1.heap.get? b = some o → s4.heap.get? b = some o := fun b o e => by rw [h4, h3]; exact Heap.get?_push_of_some _ (Heap.get?_push_of_some _ e)
  have g4 : s4.gens = s1.gens := by rw [← hs4, ← hs3]
  have os4 : s4.os = s1.os := by rw [← hs4, ← hs3]
  have nsC4 : s4.heap.Ns C (fun _ => none) := by rw [h4, ← hC]; exact Heap.Ns.new ..
  have aD : a < D := hD ▸ a2
  have LD : L < D := hD ▸ l2
  have DC : D < C := by rw [hsz3]; exact Nat.lt_succ_self _
  have lt1 : sc.heap.objs.size ≤ D := Nat.le_of_lt (Nat.lt_of_le_of_lt a1 aD)
  have lt2 : sc.heap.objs.size ≤ C := Nat.le_of_lt (Nat.lt_of_le_of_lt lt1 DC)
  have CDn : C ≠ D := Nat.ne_of_gt DC
  have CLn : C ≠ L := Nat.ne_of_gt (Nat.lt_trans LD DC)
  have Can : C ≠ a := Nat.ne_of_gt (Nat.lt_trans aD DC)
  have DLn : D ≠ L := Nat.ne_of_gt LD
  have Dan : D ≠ a := Nat.ne_of_gt aD
  have hh : X.A.handled = none := hr.hd
  have hroom : X.A.depth < recursionLimit := by have := hr.dp; omega
  have room1 : Room k X.A.in1 := ⟨hr.hd, by have := hr.dp; show X.A.depth + 3 * k + 5 < _; omega, by have := hr.un; show X.A.units + 1 + 16 * k + 200 < _; omega⟩
  have nilch : ∀ b ∈ ([] : List Addr), (b ∈ X.ex ∨ X.s_0.heap.objs.size ≤ b) ∧ b ≠ X.env.locals ∧ (∀ x c, X.env.cells.lookup x = some c → c ≠ b) ∧ ∀ p ∈ X.pn ++ pins, p.1 ≠ b := fun b z => by simp at z
  have hgl : g + 1 ≤ s4.gens.size := by rw [g4]; exact (Array.getElem?_eq_some_iff.mp hgs).1
  have loop : codeAny (model X.prog X.w) X.A (.compLoop (.ListComp elt [⟨.Tuple [.Name xa pa, .Name xb pb] kt pt, iter, [], 0⟩] scope pos) 0 (.ref a) (.ref D) ce) (compPost (model X.prog X.w) X.A X.xe use Qf (.ref D) C) s4 := by
    refine compLoop_any (fun n s' => (n = sizeLine + 2 ∧ s' = s4) ∨ ∃ m i T it out items W nf, n = m + 1 ∧ LStat a C D L T it out items ∧ LMid X pins σ a C D L T it g out items W i m s' ∧ σ[jf]? = some (some (.int nf)) ∧ TurnW X D out nf f W ∧ ∀ Hc, W out.length Hc → Q (.ref D) Hc) ?_ (sizeLine + 2) (.inl ⟨rfl, rfl⟩)
    rintro n s' (⟨rfl, rfl⟩ | ⟨m, i, T, it, out, items, W, nf, rfl, G, mid, hnf, tw, qq⟩)
    · refine wpAny_gsz (n := g + 1) hgl (next_F hh (hl.keeps up4) hroom (hgen.keeps up4) (by rw [g4]; exact hgs) (.inl ⟨c, rfl, hrun X.A.in1 [(D, { cls := .type "list", data := .seq ([] : List Value).toArray }), (C, { cls := .type "dict", data := .dict #[] })] (s'.setGen g .running) room1 I1.ok.frames up4 (os4.trans hos) (allBare_setGen (by rw [g4]; exact hb) rfl) fun p hp => ?_⟩) (fun x s₁ hΦ => ?_) fun v g' l k c' p fs s₁ hΦ => ?_)
      · simp only [List.mem_cons, List.not_mem_nil, or_false] at hp
        rcases hp with rfl | rfl
        · exact ⟨Nat.le_of_eq hD, hD4, fun v q => by cases q⟩
        · exact ⟨by show s1.heap.objs.size ≤ C; rw [hD]; exact Nat.le_of_lt DC, hC4, fun v q => by cases q⟩
      · rcases hΦ with ⟨e, T, H', ff⟩ | ⟨_, _, _, _, _, _, _, _, _, _, _, _, e, _⟩
        · cases e
          refine ⟨rfl, fun h' hk' _ => ?_⟩
          obtain ⟨d1, d2⟩ := ff.pin _ List.mem_cons_self
          obtain ⟨c1, c2⟩ := ff.pin _ (List.mem_cons_of_mem _ List.mem_cons_self)
          obtain ⟨nf, hnf, hlo, hW⟩ := ff.q
          obtain ⟨W, w0, tw, qq⟩ := hW D d2
          have I2 := I1.call' (s' := { s₁.setGen g .finished with heap := h' }) ff.os (ff.un.trans (Un.kept hk')) (ff.hok.kept hk') (allBare_setGen ff.bare rfl) nilch
          have I3 := inv_adopt (ys := []) (its := []) I2 (I1.fpOk lt1 d2) (hk' _ _ d1) .nil (Nat.zero_le _)
          refine hRR D C _ _ _ I3 (qq _ w0) (nsC4.at' fun o e => ?_) (I1.fpOk lt2 (by rw [upd_ne CDn]; exact c2))
          rw [hC4] at e
          cases e
          exact hk' _ _ c1
        · cases e
      · rcases hΦ with ⟨e, _⟩ | ⟨v2, g2, l3, k2, c2, p2, fs2, T, it, H', out, items, e, hqu, ff, hT, nit, hv, hv0, Tit, Lit, LT, ait, hit, hex, pr1, hsl⟩
        · cases e
        · cases e
          refine ⟨hqu, fun hsz => ?_⟩
          obtain ⟨d1, d2⟩ := ff.pin _ List.mem_cons_self
          obtain ⟨e1, e2⟩ := ff.pin _ (List.mem_cons_of_mem _ List.mem_cons_self)
          obtain ⟨x1, x2⟩ := hex _ List.mem_cons_self
          obtain ⟨x3, x4⟩ := hex _ (List.mem_cons_of_mem _ List.mem_cons_self)
          obtain ⟨nf, hnf, hlo, hW⟩ := ff.q
          obtain ⟨W, w0, tw, qq⟩ := hW D d2
          have I2 : Inv X pins σ H' (s₁.setGen g (End.genState (.susp v g' l k c' p fs))) := I1.call' (s' := s₁.setGen g (End.genState (.susp v g' l k c' p fs))) ff.os ff.un ff.hok (allBare_setGen ff.bare (End.bare_of_quiet hqu)) nilch
          have I3 := inv_adopt (ys := []) (its := []) I2 (I1.fpOk lt1 d2) d1 .nil (Nat.zero_le _)
          have hsz1 : g < s₁.gens.size := by
            have q : (s₁.setGen g (End.genState (.susp v g' l k c' p fs))).gens.size = s₁.gens.size := setGen_size _ _ _
            have hsz' : g + 1 ≤ (s₁.setGen g (End.genState (.susp v g' l k c' p fs))).gens.size := hsz
            omega
          have h0 : 0 < items.length := (List.getElem?_eq_some_iff.mp hv0).1
          have hlen2 : items.length = out.length := hv.length.symm
          have G : LStat a C D L T it out items := ⟨hv, CDn, CLn, x3, x4, Can, DLn, x1, x2, Dan, la, ait⟩
          refine lturn (i := 0) (m := items.length - 1) G hh I3 w0 (fun b hb => ?_) (by omega) ff.isg ⟨_, setGen_at hsz1, hsl⟩ pr1 ⟨_, nsC4.at' fun o e => ?_⟩ hv0 tw hnf hif hkf ccl cL hcls kia kib hab (qe ce kce) fun s5 mid => ⟨items.length - 1 + 1, ?_, .inr ⟨items.length - 1, 1, T, it, out, items, W, nf, rfl, G, mid, hnf, tw, qq⟩⟩
          · simp only [List.mem_cons, List.not_mem_nil, or_false] at hb
            rcases hb with rfl | rfl | rfl
            · exact I1.fpOk lt2 (by rw [upd_ne CDn]; exact e2)
            · exact I1.fpOk l1 (by rw [upd_ne (Ne.symm DLn)]; exact ff.nL)
            · exact I1.fpOk hit (by rw [upd_ne (Ne.symm x1)]; exact nit)
          · rw [hC4] at e
            cases e
            exact e1
          · omega
    · obtain ⟨Hc, J, w, fp⟩ := mid.st
      obtain ⟨gs, hgs2, hsl⟩ := mid.gen
      have hgl2 : g + 1 ≤ s'.gens.size := (Array.getElem?_eq_some_iff.mp hgs2).1
      have hi2 := mid.sum
      have fLi : ∀ b ∈ [L, it], FpOk X pins Hc b := fun b hb => fp b (List.mem_cons_of_mem _ hb)
      obtain ⟨mC, nC⟩ := mid.ns
      cases m with
      | zero =>
        obtain ⟨kk, l, c0, p, fs, cl, rfl, hrun2⟩ := hsl
        refine next_F hh J.nolimit hroom mid.isg hgs2 (.inr ⟨kk, l, c0, p, fs, cl, rfl, hrun2 (s'.setGen g .running) mid.pr⟩) (fun x s₁ hΦ => ?_) fun v g' l k c' p fs s₁ hΦ => ?_
        · obtain ⟨e, h1, tk, rfl, kp⟩ := hΦ
          cases e
          refine ⟨rfl, fun h' hk' => ?_⟩
          have J1 := J.turnedL (h' := h1) (t' := tk) (ch := [L, it]) (fun b o hb e => kp b o (fun z => hb (by simp [z])) (fun z => hb (by simp [z])) e) fLi
          have J2 := J1.kept (h' := h') (t' := tk) hk'
          have ei : i = out.length := by omega
          subst ei
          exact hRR D C _ mC Hc (inv_gens J2 (allBare_setGen (allBare_setGen J.bare rfl) rfl)) (qq _ w) (nC.at' fun o e => hk' _ _ (kp C o G.CL G.Ci e)) (fp C List.mem_cons_self)
        · obtain ⟨e, _⟩ := hΦ
          cases e
      | succ m =>
        obtain ⟨kk, l, c0, p, fs, cl, rfl, hrun2⟩ := hsl
        refine wpAny_gsz (n := g + 1) hgl2 (next_F hh J.nolimit hroom mid.isg hgs2 (.inr ⟨kk, l, c0, p, fs, cl, rfl, hrun2 (s'.setGen g .running) mid.pr⟩) (fun x s₁ hΦ => ?_) fun v g' l k c' p fs s₁ hΦ => ?_)
        · obtain ⟨_, _, _, _, _, _, _, e, _⟩ := hΦ
          cases e
        · obtain ⟨_, _, _, _, _, _, _, e, hqu, hvi, ⟨h1, tk, rfl, kp⟩, pr1, hsl'⟩ := hΦ
          cases e
          refine ⟨hqu, fun hsz => ?_⟩
          have J1 := J.turnedL (h' := h1) (t' := tk) (ch := [L, it]) (fun b o hb e => kp b o (fun z => hb (by simp [z])) (fun z => hb (by simp [z])) e) fLi
          have hb2 := allBare_setGen (g := g) (allBare_setGen (g := g) (x := .running) J.bare rfl) (End.bare_of_quiet hqu)
          have J3 := inv_gens J1 hb2
          have hsz1 : g < ((s'.setGen g .running).gens).size := by
            rw [setGen_size]
            exact hgl2
          obtain ⟨o, nm, qn, ho, r⟩ := mid.isg
          exact lturn (i := i) (m := m) G hh J3 w fp (by omega) ⟨o, nm, qn, kp a o (Ne.symm G.La) G.ai ho, r⟩ ⟨_, setGen_at hsz1, hsl'⟩ pr1 ⟨mC, nC.at' fun o e => kp C o G.CL G.Ci e⟩ (by simpa using hvi) tw hnf hif hkf ccl cL hcls kia kib hab (qe ce kce) fun s5 mid => ⟨m + 1, by omega, .inr ⟨m, i + 1, T, it, out, items, W, nf, rfl, G, mid, hnf, tw, qq⟩⟩
  exact codeAny_compStart_list loop (wpAny_pyIter_gen (hgen.keeps up4) loop)
end
end Gz

set_option Elab.async false
set_option linter.all false
set_option maxRecDepth 100000
set_option maxHeartbeats 2000000
/-! D55: y = [(.., ..) for a, b in f(..)], over data. -/
namespace Gz
open PySem PySem.Spec PyProof.Rows L2 GenW
open Sem (wp)
theorem ps_setLcG {X : Cx} {k jf i : Nat} {y : Str} {py : Pos} {elt iter : Expr} {scope : Scope} {own : List (Str × Nat)} {pos spos pa pb pt : Pos} {kt : Nat} {xa xb xf : Str} {f : Int → Int → Int → Int × Int} {tg : L2.St → Hp → (Addr → List V → Hp → Prop) → Prop}
    (hN : X.N.Nodup) (hy : X.N[i]? = some y) (hyl : X.env.scope.names.lookup y = some .local) (hsw : swapsWith (.ListComp elt [⟨.Tuple [.Name xa pa, .Name xb pb] kt pt, iter, [], 0⟩] scope pos) (some (.Name y py)) spos.line X.env = pure true)
    (hg : Dl.PGk X k iter tg) (hr : Room (k + 1) X.A) (ok : BlkOk X.N X.env.scope scope own) (hpc : ∀ h, pushCells h scope.names = h)
    (ka : (relS scope X.env.scope).names.lookup xa = some .local) (kb : (relS scope X.env.scope).names.lookup xb = some .local) (hab : xa ≠ xb) (hif : X.N[jf]? = some xf) (hkf : X.env.scope.names.lookup xf = some .cell)
    (hcf : ∀ n cells, (cellsFrom n scope.names (cloFrom cells scope.names [])).lookup xf = some ((cells.lookup xf).getD 0)) (qe : ∀ ce : Env, ce.scope = relS scope X.env.scope → QElt X.prog X.w ce elt xa xb xf f)
    (hs : ∀ x, foldedSetIterable iter X.env x = pure x) :
    PS X (.Assign [.Name y py] (.ListComp elt [⟨.Tuple [.Name xa pa, .Name xb pb] kt pt, iter, [], 0⟩] scope pos) spos) (tAsg (tLcG X tg jf f) (gName i)) := by
  refine ⟨fun pins s σ H D I h => ?_⟩
  rw [exec_Assign_Name_used _ _ _ _ hsw]
  refine wpAny_bind (wpAny_standAt (wpAny_bind ?_))
  show wpAny _ X.A (do let _ ← comprehension (.ListComp elt [⟨.Tuple [.Name xa pa, .Name xb pb] kt pt, iter, [], 0⟩] scope pos) scope X.env (firstIterPos [⟨.Tuple [.Name xa pa, .Name xb pb] kt pt, iter, [], 0⟩] pos) (newList []) false (eval iter X.env) (some (assign (.Name y py) X.env))) _ _ s
  have h : tLcG X tg jf f σ H (fun x H1 => gName i x σ H1 D.nx) := h
  refine wpAny_bind (thn (lcg_core (Qf := fun _ s' => SP X pins D .next s') hN I hg hr ok hpc ka kb hab hif hkf hcf qe hs h fun L C s' m H' I' q hn f => ?_) fun _ s' hq => wpAny_pure (wpAny_pure hq))
  show wpAny _ _ (assign (.Name y py) X.env (.ref L)) _ _ _
  refine wpAny_assign_Name (store_ok2 (v := V.ref L) I' hN hy (.inl hyl) rfl (fun s2 I2 ⟨a, sb, ha⟩ => ?_) (.inr hyl))
  obtain ⟨f0, f1, f2, f3, f4, f5⟩ := f
  have haC : C ≠ a := by
    rcases ha with z | z
    · rw [z]; exact f1
    · exact fun e => f4 y a z e.symm
  refine ⟨m, hn.sameBut sb haC, fun h3 sb3 => ?_⟩
  exact ⟨_, H', I2.turned (t' := s2.toks) (fun b o hb e => (sb3.2 b hb).trans e) f0 f1 f3 f4 f5, q⟩
end Gz
namespace Dl
open PySem PySem.Spec PyProof.Rows L2 Gz
section
variable {M : Mach} {X : Cx} {N : List Str} {sc : Scope} {vb lb gb : Str → Bool} {B : Bs} {G : Sl} {O : Own} {e : Expr} {es : List Expr} {cpos p : Pos} {g y : Str} {k : Nat} {sp : GSp} {E : EndsD}
abbrev eP2 (x : Int × Int) : D := .tup [.int x.1, .int x.2]
theorem rep_pair {K : PySem.W.Frag} {F : Hp} {v : V} {r : Int × Int} (h : Rep K F v (eP2 r)) : ∃ t, v = .ref t ∧ SqT K F t [.int r.1, .int r.2] := by
  cases h with
  | tup hq rs =>
    cases rs with
    | cons r1 rs =>
      cases rs with
      | cons r2 rs =>
        cases rs
        cases r1
        cases r2
        exact ⟨_, rfl, hq⟩
theorem ws_setLcG {ks : List Str} {kws : List Keyword} {elt : Expr} {scope : Scope} {own : List (Str × Nat)} {pos spos py pa pb pt : Pos} {kt iy jf : Nat} {fs : D → Sl} {xa xb xf : Str} {f : Int → Int → Int → Int × Int} {n : Int} {prs : List (Int × Int)} {ds zs : List D} (C : Cxt M X N sc vb lb gb) (gf : GGenK M g ks k sp) (hr : Room (k + 1) X.A) (hg : gb g = true)
    (hy : SetAt N G y iy fs) (hyl : sc.names.lookup y = some .local) (hb : blkC N sc scope own = true) (ka : (relS scope sc).names.lookup xa = some .local) (kb : (relS scope sc).names.lookup xb = some .local) (hab : xa ≠ xb) (hif : N[jf]? = some xf) (hkf : sc.names.lookup xf = some .cell)
    (qe : ∀ ce : Env, ce.scope = relS scope sc → QElt X.prog X.w ce elt xa xb xf f) (hn : G[jf]? = some (some (.int n))) (ha : PAv X B G O (e :: es) ds) (hk : WK X B G O kws fun zs' O' => zs' = zs ∧ O' = O) (hzl : zs.length = ks.length) (hsp : sp (ds ++ zs) (prs.map eP2)) (hlen : prs.length ≤ 100000)
    (hm : ∀ r ∈ prs, IntMulOk r.1 n ∧ IntMulOk r.2 n) (q : ∀ p, E.nx (fs (.obj p)) ((p, .lst (prs.map fun r => eP2 (f r.1 r.2 n))) :: O))
    (hcf : ∀ n cells, (cellsFrom n scope.names (cloFrom cells scope.names [])).lookup xf = some ((cells.lookup xf).getD 0) := by intro _ _; rfl) (hpc : ∀ h, pushCells h scope.names = h := by intro _; rfl)
    (hl : (py.line == pos.line) = true := by rfl) (hns : (scope.names.any fun (n, k) => n == y && (k == .local || k == .cell)) = false := by rfl)
    (hall : (backToKw cpos (keywordEach kws X.env)).all (·.1.isSome) = true := by rfl) (hks : (backToKw cpos (keywordEach kws X.env)).filterMap (·.1) = ks := by rfl)
    (he : starEach (e :: es) X.env = (false, eval e X.env) :: starEach es X.env := by exact star_cons rfl) (hpl : ((backTo cpos (starEach (e :: es) X.env)).any (·.1) || (backToKw cpos (keywordEach kws X.env)).any (·.1.isNone)) = false := by rfl)
    (hfs : ∀ v, foldedSetIterable (.Call (.Name g p) (e :: es) kws cpos) X.env v = pure v := by intro _; rfl) :
    WS X B G O (.Assign [.Name y py] (.ListComp elt [⟨.Tuple [.Name xa pa, .Name xb pb] kt pt, .Call (.Name g p) (e :: es) kws cpos, [], 0⟩] scope pos) spos) E := fun F σ H S D' kk => by
  obtain rfl := C.hM
  obtain ⟨ga, fd, ps, h1, h2, h3, h4⟩ := gf
  have hN : X.N.Nodup := by rw [C.hN]; exact C.nd
  obtain ⟨i1, i2⟩ := hy.ix
  refine semS (ps_setLcG (i := iy) (own := own) (jf := jf) (f := f) hN (by rw [C.hN]; exact i1) (by rw [C.hsc]; exact hyl) (sw_true C.kf (by rw [C.hsc]; exact hyl) hl hns) (pgk_callK h4 (hr.mono (Nat.le_add_right k 1)) (C.gl g hg).1 h1 h2 h3 pa_sem pk_sem hall hks (C.gl g hg).2 he hpl) hr
    (by rw [C.hN, C.hsc]; exact blkOk_by hb) hpc (by rw [C.hsc]; exact ka) (by rw [C.hsc]; exact kb) hab (by rw [C.hN]; exact hif) (by rw [C.hsc]; exact hkf) hcf (fun ce hc => qe ce (by rw [hc, C.hsc])) hfs) ?_
  refine ha F σ H S _ fun vs F1 H1 ds1 O1 S1 e1 r1 p1 => ?_
  obtain ⟨rfl, rfl⟩ := p1
  refine hk F1 σ H1 S1 _ fun zs1 F2 H2 ds2 O2' S2 e2 r2 p2 => ?_
  obtain ⟨rfl, rfl⟩ := p2
  have ej : kwJoin ks vs zs1 = vs ++ zs1 := if_pos (by rw [r2.length, hzl])
  rw [ej]
  refine gpost_run (Φ := fun od' _ => od' = prs.map eP2) S2 ((r1.mono e2).append r2) ⟨_, hsp, by rw [List.length_map]; omega, rfl⟩ fun T out F' H' od' S' e' r' hT hl' q' => ?_
  subst q'
  obtain ⟨vn, ev, rv⟩ := S'.slot jf _ hn
  cases rv
  have hol : out.length = prs.length := by rw [r'.length, List.length_map]
  refine ⟨n, ev, len_line (by rw [hol]; omega), fun Dl hD => ⟨fun i Hc => ∃ F3, Sat X.K B G ((Dl, .lst ((prs.take i).map fun r => eP2 (f r.1 r.2 n))) :: O2') F3 σ Hc ∧ Same F' F3, ⟨F', S'.allocOwn hD (ov := .lst []) ⟨[], upd_same, .nil⟩, Same.refl _⟩, ?_, ?_⟩⟩
  · rintro i Hc v ⟨F3, S3, e3⟩ hv
    have hi : i < prs.length := by rw [← hol]; exact (List.getElem?_eq_some_iff.mp hv).1
    obtain ⟨d, hd, rd⟩ := (r'.mono e3).get' hv
    rw [List.getElem?_map, List.getElem?_eq_getElem hi] at hd
    cases hd
    obtain ⟨t, rfl, hq⟩ := rep_pair rd
    obtain ⟨acc, hacc, racc⟩ := own_get S3 List.mem_cons_self
    obtain ⟨m1, m2⟩ := hm _ (List.getElem_mem hi)
    refine ⟨t, prs[i].1, prs[i].2, acc, rfl, sqT_mono S3.ex hq, m1, m2, hacc, ?_, fun tn htn => ?_⟩
    · rw [racc.length, List.length_map, List.length_take]
      have := len_line (n := 100001) (by omega)
      omega
    · have S4 := S3.alloc htn (.tup [.int (f prs[i].1 prs[i].2 n).1, .int (f prs[i].1 prs[i].2 n).2])
      have e4 : Same F3 (upd F3 tn (.tup [.int (f prs[i].1 prs[i].2 n).1, .int (f prs[i].1 prs[i].2 n).2])) := same_upd (S3.fresh htn).1
      have rt : Rep X.K (upd F3 tn (.tup [.int (f prs[i].1 prs[i].2 n).1, .int (f prs[i].1 prs[i].2 n).2])) (.ref tn) (eP2 (f prs[i].1 prs[i].2 n)) := .tup (SqT.of upd_same) (.cons (.int _) (.cons (.int _) .nil))
      refine ⟨_, S4.mut (.z) (ov := .lst ((prs.take (i + 1)).map fun r => eP2 (f r.1 r.2 n))) ⟨acc ++ [.ref tn], upd_same, ?_⟩, e3.trans e4⟩
      rw [List.take_add_one, List.getElem?_eq_getElem hi, List.map_append]
      exact (racc.mono e4).append (.cons rt .nil)
  · rintro Hc ⟨F3, S3, e3⟩
    rw [hol, List.take_length] at S3
    have q' := q Dl
    rw [i2] at q'
    exact kk.nx _ _ F3 _ Hc (S3.set (.obj Dl)) (((e1.trans e2).trans e').trans e3) q'
end
end Dl

set_option Elab.async false
set_option linter.all false
set_option maxRecDepth 100000
set_option maxHeartbeats 2000000
/-! D56: sorted of rows that begin with four ints (as D20's of three). -/
namespace Dl
open PySem PySem.Spec PyProof.Rows L2 L2.DX
/-! ### rows that begin with four ints, no two of them alike -/
abbrev K4 := Int × Int × Int × Int
def lex4 (p q : K4) : Bool := if p.1 = q.1 then lex3 p.2 q.2 else decide (p.1 < q.1)
theorem lex4_iff {p q : K4} : lex4 p q = true ↔ p.1 < q.1 ∨ (p.1 = q.1 ∧ (p.2.1 < q.2.1 ∨ (p.2.1 = q.2.1 ∧ (p.2.2.1 < q.2.2.1 ∨ (p.2.2.1 = q.2.2.1 ∧ p.2.2.2 < q.2.2.2))))) := by
  unfold lex4
  by_cases c : p.1 = q.1
  · rw [if_pos c, lex3_iff]
    constructor
    · exact fun h => .inr ⟨c, h⟩
    · rintro (h | h)
      · omega
      · exact h.2
  · rw [if_neg c, decide_eq_true_iff]
    constructor
    · exact fun h => .inl h
    · rintro (h | h)
      · exact h
      · exact absurd h.1 c
theorem lex4_no {p q : K4} : lex4 p q = false ↔ ¬ (p.1 < q.1 ∨ (p.1 = q.1 ∧ (p.2.1 < q.2.1 ∨ (p.2.1 = q.2.1 ∧ (p.2.2.1 < q.2.2.1 ∨ (p.2.2.1 = q.2.2.1 ∧ p.2.2.2 < q.2.2.2)))))) := by
  rw [← lex4_iff, Bool.not_eq_true]
theorem swo_lex4 (k : Value → K4) : SrtO.Swo fun v u => lex4 (k v) (k u) := by
  refine ⟨fun x y h => ?_, fun x y z h1 h2 => ?_⟩
  · have a := lex4_iff.mp h
    refine lex4_no.mpr ?_
    omega
  · have a := lex4_no.mp h1
    have b := lex4_no.mp h2
    refine lex4_no.mpr ?_
    omega
def IsR4 (h : Heap) (v : Value) (k : K4) : Prop := ∃ a o t1 t2 t3 t4 r n, v = .ref a ∧ h.get? a = some o ∧ o.cls = .type "tuple" ∧ o.data = .seq #[.int k.1 t1, .int k.2.1 t2, .int k.2.2.1 t3, .int k.2.2.2 t4, r] n
theorem IsR4.keeps {h h' : Heap} {v : Value} {k : K4} (x : IsR4 h v k) (kp : ∀ b o, h.get? b = some o → o.cls = .type "tuple" → h'.get? b = some o) : IsR4 h' v k := by
  obtain ⟨a, o, t1, t2, t3, t4, r, n, e, ho, hc, hd⟩ := x
  exact ⟨a, o, t1, t2, t3, t4, r, n, e, kp _ _ ho hc, hc, hd⟩
theorem r4_firsts {h : Heap} {k : Value → K4} : ∀ {vs : List Value}, (∀ v ∈ vs, IsR4 h v (k v)) → ∃ fs : List Value, PySem.W.KatTups h vs fs ∧ fs.length = vs.length ∧ ∀ f ∈ fs, ∃ x t, f = Value.int x t
  | [], _ => ⟨[], PySem.W.KatTups.nil, rfl, fun _ hm => (List.not_mem_nil hm).elim⟩
  | v :: vs, hp => by
    obtain ⟨fs, f1, f2, f3⟩ := r4_firsts (vs := vs) fun u hu => hp u (List.mem_cons_of_mem _ hu)
    obtain ⟨a, o, t1, t2, t3, t4, r, n, e, ho, hc, hd⟩ := hp v List.mem_cons_self
    rw [e]
    refine ⟨.int _ t1 :: fs, PySem.W.KatTups.cons ho hc hd rfl f1, by rw [List.length_cons, List.length_cons, f2], fun f hf => ?_⟩
    rcases List.mem_cons.mp hf with z | hf
    · exact ⟨_, _, z⟩
    · exact f3 f hf
section
variable {prog : Program} {w : World} {A : Around} {s : Shared}
theorem r4_cmp {vs : List Value} {k : Value → K4} (hp : ∀ v ∈ vs, IsR4 s.heap v (k v)) (hu : ∀ v ∈ vs, ∀ u ∈ vs, k v = k u → v = u) : SrtO.Cmp prog w A s (tuples' true) (fun p => p.1 ∈ vs) (SrtO.lt2 fun v u => lex4 (k v) (k u)) := by
  intro p q hm hm'
  have h1 := hp _ hm
  have h2 := hp _ hm'
  have h3 := hu _ hm _ hm'
  show wpAny (model prog w) A (keyLt' (tuples' true) p.1 q.1) (fun r s' => s' = s ∧ r = lex4 (k p.1) (k q.1)) (fun _ _ => False) s
  generalize p.1 = v at h1 h3 ⊢
  generalize q.1 = u at h2 h3 ⊢
  generalize k v = kv at h1 h3 ⊢
  generalize k u = ku at h2 h3 ⊢
  obtain ⟨x, y, z, zz⟩ := kv
  obtain ⟨x', y', z', zz'⟩ := ku
  obtain ⟨a, o, t1, t2, t3, t4, r, n, e, ho, hc, hd⟩ := h1
  obtain ⟨a', o', t1', t2', t3', t4', r', n', e', ho', hc', hd'⟩ := h2
  rw [e, e'] at h3 ⊢
  dsimp only at hd hd'
  refine PySem.W.kat_lt ho hd ho' hd' ?_
  show PySem.W.KatLex prog w A true (decide (5 < 5)) _ [(.int x t1, .int x' t1'), (.int y t2, .int y' t2'), (.int z t3, .int z' t3'), (.int zz t4, .int zz' t4'), (r, r')] 0 s
  unfold lex4 lex3 SrtO.lexB
  dsimp only
  refine PySem.W.kat_cons (SeqAt.EqAt.int_int x t1 x' t1' prog w _ _ (PySem.W.kat_go (fun e1 => ?_) (fun e1 => ?_)))
  · have ex : x = x' := by simpa using e1
    rw [if_pos ex]
    refine PySem.W.kat_yes (PySem.W.kat_cons (SeqAt.EqAt.int_int y t2 y' t2' prog w _ _ (PySem.W.kat_go (fun e2 => ?_) (fun e2 => ?_))))
    · have ey : y = y' := by simpa using e2
      rw [if_pos ey]
      refine PySem.W.kat_yes (PySem.W.kat_cons (SeqAt.EqAt.int_int z t3 z' t3' prog w _ _ (PySem.W.kat_go (fun e3 => ?_) (fun e3 => ?_))))
      · have ez : z = z' := by simpa using e3
        rw [if_pos ez]
        refine PySem.W.kat_yes (PySem.W.kat_cons (SeqAt.EqAt.int_int zz t4 zz' t4' prog w _ _ (PySem.W.kat_go (fun e4 => ?_) (fun e4 => ?_))))
        · have ezz : zz = zz' := by simpa using e4
          subst ex ey ez ezz
          have ea : a = a' := by
            have := h3 rfl
            injection this
          subst ea
          rw [ho] at ho'
          cases ho'
          rw [hd] at hd'
          have er : r = r' := by
            injection hd' with hd1 hd2
            have := congrArg (fun v : Array Value => v.toList) hd1
            have this : t1 = t1' ∧ t2 = t2' ∧ t3 = t3' ∧ t4 = t4' ∧ r = r' := by simpa using this
            exact this.2.2.2.2
          subst er
          refine PySem.W.kat_yes (PySem.W.kat_cons (SeqAt.EqAt.same r prog w _ _ (PySem.W.kat_yes (PySem.W.kat_nil ⟨rfl, ?_⟩))))
          exact (decide_eq_false (Int.lt_irrefl _)).symm
        · exact PySem.W.kat_no (PySem.W.kat_one _ _ (PyProof.Rows.lt_int ⟨rfl, rfl⟩))
      · have ez : ¬ z = z' := by simpa using e3
        rw [if_neg ez]
        exact PySem.W.kat_no (PySem.W.kat_one _ _ (PyProof.Rows.lt_int ⟨rfl, rfl⟩))
    · have ey : ¬ y = y' := by simpa using e2
      rw [if_neg ey]
      exact PySem.W.kat_no (PySem.W.kat_one _ _ (PyProof.Rows.lt_int ⟨rfl, rfl⟩))
  · have ex : ¬ x = x' := by simpa using e1
    rw [if_neg ex]
    exact PySem.W.kat_no (oneLt_int ⟨rfl, rfl⟩)
theorem r4_sortable {a : Addr} {vs : List Value} {k : Value → K4} (h0 : 0 < vs.length) (hp : ∀ v ∈ vs, IsR4 s.heap v (k v)) (hu : ∀ v ∈ vs, ∀ u ∈ vs, k v = k u → v = u) (ha : ∀ o, s.heap.get? a = some o → o.cls ≠ .type "tuple") : SrtO.SortableO prog w A s a vs fun v u => lex4 (k v) (k u) := by
  intro h' keep
  have hp' : ∀ v ∈ vs, IsR4 h' v (k v) := fun v hm => (hp v hm).keeps fun b o e c => keep b o (fun z => by subst z; exact ha o e c) e
  obtain ⟨fs, f1, f2, f3⟩ := r4_firsts hp'
  refine ⟨tuples' true, fun Q E hq => ?_, r4_cmp hp' hu⟩
  refine PySem.W.kat_kind (T := .type "int") f1 (by omega) (fun f hm => ?_) (by rfl) ?_
  · obtain ⟨x, t, rfl⟩ := f3 f hm
    exact PySem.W.Looks.now
  · rw [show (Value.type "int" != Value.type "tuple") = true by first | rfl | decide +kernel]
    exact hq
end
def k4At (h : Heap) (v : Value) : K4 := match h.get? (adr v) with
  | some ⟨_, _, .seq its _, _⟩ => (match its.toList with
    | [.int i _, .int j _, .int l _, .int m _, _] => (i, j, l, m)
    | _ => (0, 0, 0, 0))
  | _ => (0, 0, 0, 0)
abbrev Z4 := Addr × K4 × V
def rSortR4 (K : PySem.W.Frag) : List V → Hp → VK → Prop := fun vs H Q => ∃ (a : Addr) (zs : List Z4), vs = [V.ref a] ∧ SqL K H a (zs.map fun z => V.ref z.1) ∧ (∀ z ∈ zs, SqT K H z.1 [.int z.2.1.1, .int z.2.1.2.1, .int z.2.1.2.2.1, .int z.2.1.2.2.2, z.2.2]) ∧ (zs.map fun z => z.2.1).Nodup ∧
  ∀ (ws : List Z4) p, ws.Perm zs → (ws.map fun z => z.2.1).Pairwise (fun e f => lex4 f e = false) → H p = none → Q (.ref p) (upd H p (.lst (ws.map fun z => V.ref z.1)))
section
variable {X : Cx}
theorem cr_sortedR4 : CallR X (.builtin "sorted") (rSortR4 X.K) := by
  intro pins s σ H vs us Q I r h
  obtain ⟨a, zs, rfl, hs, hx, hnd, q⟩ := h
  obtain ⟨its, rv, hl, hz⟩ := I.list hs
  obtain rfl := Vals.ref1 r
  have ei := addrs_of rv
  subst ei
  rw [List.length_map] at hz
  have pr : ∀ z ∈ zs, IsR4 s.heap (.ref z.1) z.2.1 ∧ k4At s.heap (.ref z.1) = z.2.1 := fun z hz => by
    obtain ⟨its2, r2, ⟨o, ho, hc, n, hd⟩, _⟩ := I.tuple (hx z hz)
    cases r2 with
    | cons ri r2 =>
      cases r2 with
      | cons rj r2 =>
        cases r2 with
        | cons rl r2 =>
          cases r2 with
          | cons rm r2 =>
            cases r2 with
            | cons rr r2 =>
              cases r2
              obtain ⟨t1, rfl⟩ := ri
              obtain ⟨t2, rfl⟩ := rj
              obtain ⟨t3, rfl⟩ := rl
              obtain ⟨t4, rfl⟩ := rm
              refine ⟨⟨z.1, o, t1, t2, t3, t4, _, n, rfl, ho, hc, hd⟩, ?_⟩
              unfold k4At adr
              rw [ho]
              obtain ⟨oc, od, dt, osl⟩ := o
              have hd : dt = _ := hd
              subst hd
              rfl
  -- the row at an address
  let back : Value → Z4 := fun v => ((zs.find? fun z => decide (z.1 = adr v)).getD (0, (0, 0, 0, 0), .non))
  have hk : ∀ z ∈ zs, ∀ y ∈ zs, z.1 = y.1 → z = y := fun z hz y hy e => nodup_key hnd z hz y hy (by rw [← (pr z hz).2, ← (pr y hy).2, e])
  have bk : ∀ z ∈ zs, back (.ref z.1) = z := fun z hz => by
    show (zs.find? fun y => decide (y.1 = z.1)).getD _ = z
    cases hf : zs.find? fun y => decide (y.1 = z.1) with
    | none =>
      have := List.find?_eq_none.mp hf z hz
      simp at this
    | some y =>
      have h1 := List.find?_some hf
      have h2 := List.mem_of_find?_eq_some hf
      exact (hk z hz y h2 (of_decide_eq_true h1).symm).symm
  refine SrtO.sorted_ord (swo_lex4 (k4At s.heap)) hl.isList (by rw [List.length_map]; exact hz) (fun l2 h₁ b hb kk => r4_sortable (k := k4At s.heap) (by omega) (fun v hv => ?_) (fun v hv u hu e => ?_) fun o e => ?_) fun out h1 h2 => ?_
  · obtain ⟨z, hz, rfl⟩ := List.mem_map.mp hv
    rw [(pr z hz).2]
    exact (pr z hz).1.keeps fun b o e _ => (kk b o e).2
  · obtain ⟨z, hz, rfl⟩ := List.mem_map.mp hv
    obtain ⟨y, hy, rfl⟩ := List.mem_map.mp hu
    rw [(pr z hz).2, (pr y hy).2] at e
    rw [nodup_key hnd z hz y hy e]
  · have e' : some o = some (seqObj "list" _ 0) := e.symm.trans hb
    cases e'
    exact fun c => absurd (Value.type.inj c) (by decide)
  · have mem : ∀ v ∈ out, ∃ z ∈ zs, v = Value.ref z.1 ∧ back v = z := fun v hv => by
      obtain ⟨z, hz, e⟩ := List.mem_map.mp (h2.perm.mem_iff.mp hv)
      exact ⟨z, hz, e.symm, by rw [← e]; exact bk z hz⟩
    have e1 : (out.map back).map (fun z => Value.ref z.1) = out := by
      rw [List.map_map]
      conv => rhs; rw [← List.map_id out]
      refine List.map_congr_left fun v hv => ?_
      obtain ⟨z, _, e, e2⟩ := mem v hv
      show Value.ref (back v).1 = v
      rw [e2, e]
    have e2 : (zs.map fun z => Value.ref z.1).map back = zs := by
      rw [List.map_map]
      conv => rhs; rw [← List.map_id zs]
      exact List.map_congr_left fun z hz => bk z hz
    have pm : (out.map back).Perm zs := by
      have := h2.perm.map back
      rw [e2] at this
      exact this
    have rv2 : Vals ((out.map back).map fun z => V.ref z.1) out := by
      conv => arg 2; rw [← e1]
      exact vals_addrs _
    obtain ⟨ep, he'⟩ := PyProof.Rows.sortedAll_at s.heap (zs.map fun z => Value.ref z.1) out.toArray
    refine ⟨.ref _, upd H (s.heap.objs.size + 1) (.lst ((out.map back).map fun z => V.ref z.1)), I.laid (t' := s.toks) (fun _ _ => PyProof.Rows.sortedAll_old) (Nat.le_succ _) ⟨?_, out, ep, rv2, he'⟩, rfl, q _ _ pm ?_ (I.hok.fresh (Nat.le_succ _))⟩
    · rw [List.length_map, pm.length_eq]
      exact hz
    · rw [List.map_map]
      refine List.pairwise_map.mpr (h1.imp_of_mem fun {x y} hx hy e => ?_)
      obtain ⟨z, hz, ez, bz⟩ := mem x hx
      obtain ⟨u, hu, eu, bu⟩ := mem y hy
      show lex4 (back y).2.1 (back x).2.1 = false
      rw [bz, bu, ← (pr z hz).2, ← (pr u hu).2, ← ez, ← eu]
      exact e
end
section
variable {M : Mach} {X : Cx} {N : List Str} {sc : Scope} {vb lb gb : Str → Bool} {B : Bs} {G : Sl} {O : Own} {a : Expr} {pos p : Pos} {d1 : D}
abbrev dR4 (q : K4 × D) : D := .tup [.int q.1.1, .int q.1.2.1, .int q.1.2.2.1, .int q.1.2.2.2, q.2]
theorem reps_rows4 {K : PySem.W.Frag} {F : Hp} : ∀ {tb : List (K4 × D)} {vs : List V}, Reps K F vs (tb.map dR4) → ∃ zs : List (Z4 × D), vs = (zs.map fun z => V.ref z.1.1) ∧ (zs.map fun z => (z.1.2.1, z.2)) = tb ∧ ∀ z ∈ zs, SqT K F z.1.1 [.int z.1.2.1.1, .int z.1.2.1.2.1, .int z.1.2.1.2.2.1, .int z.1.2.1.2.2.2, z.1.2.2] ∧ Rep K F z.1.2.2 z.2
  | [], _, .nil => ⟨[], rfl, rfl, fun _ h => (List.not_mem_nil h).elim⟩
  | q :: tb, _, .cons h r => by
    obtain ⟨zs, e1, e2, e3⟩ := reps_rows4 r
    cases h with
    | tup hq rs =>
      rename_i t xs
      cases rs with
      | cons a1 rs =>
        cases rs with
        | cons a2 rs =>
          cases rs with
          | cons a3 rs =>
            cases rs with
            | cons a4 rs =>
              cases rs with
              | cons a5 rs =>
                cases rs
                cases a1
                cases a2
                cases a3
                cases a4
                rename_i v5
                refine ⟨((t, q.1, v5), q.2) :: zs, by rw [List.map_cons, e1], by rw [List.map_cons, e2], fun z hz => ?_⟩
                rcases List.mem_cons.mp hz with e | hz
                · rw [e]; exact ⟨hq, a5⟩
                · exact e3 z hz
/-- sorted(xs), xs rows that begin with four ints -/
theorem wn_sortedRows4 {tb : List (K4 × D)} {Φ : List D → Own → Prop} (C : Cxt M X N sc vb lb gb) (hm : M.mg "sorted" = none) (hg : gb "sorted" = true) (ha : PEv X B G O a d1) (it : ItemsL O d1 (tb.map dR4)) (hnd : (tb.map (·.1)).Nodup) (h : ∀ out : List (K4 × D), out.Perm tb → (out.map (·.1)).Pairwise (fun e f => lex4 f e = false) → Φ (out.map dR4) O)
    (sa : Plain1 a := by exact fun _ _ => star_cons rfl) (hpl : (backTo pos (starEach [] X.env)).any (·.1) = false := by rfl) : WN X B G O (.Call (.Name "sorted" p) [a] [] pos) Φ := fun F σ H S Q k => by
  refine sem (pe_callB cr_sortedR4 (C.gl _ hg).1 (by rw [C.mg]; exact hm) (by rfl) (pa_cons pe_sem pa_nil (sa _ _)) (by decide) (C.gl _ hg).2 (sa _ _) hpl) ?_
  refine ha F σ H S _ fun v F1 H1 d O1 S1 e1 r1 p1 => ?_
  obtain ⟨rfl, rfl⟩ := p1
  obtain ⟨l, vs, rfl, rs, hq⟩ := itemsL_ok S1 r1 it
  obtain ⟨zs, z1, z2, z3⟩ := reps_rows4 rs
  subst z1
  have em : (zs.map fun z => V.ref z.1.1) = (zs.map (·.1)).map fun z => V.ref z.1 := by rw [List.map_map]; rfl
  rw [em] at hq
  refine ⟨l, zs.map (·.1), rfl, hq, fun z hz => ?_, ?_, fun ws q perm srt hp => ?_⟩
  · obtain ⟨y, hy, rfl⟩ := List.mem_map.mp hz
    exact sqT_mono S1.ex (z3 y hy).1
  · rw [List.map_map]
    rw [← z2, List.map_map] at hnd
    exact hnd
  · obtain ⟨as, pa, ea⟩ := perm_lift2 (fun z : Z4 × D => z.1) perm rfl
    subst ea
    have hd : Reps X.K F1 ((as.map fun z => z.1).map fun z => V.ref z.1) ((as.map fun z => (z.1.2.1, z.2)).map dR4) := by
      rw [List.map_map, List.map_map]
      exact reps_mk (fun z : Z4 × D => V.ref z.1.1) (fun z => dR4 (z.1.2.1, z.2)) as fun z hz => .tup (z3 z (pa.mem_iff.mp hz)).1 (.cons (.int _) (.cons (.int _) (.cons (.int _) (.cons (.int _) (.cons (z3 z (pa.mem_iff.mp hz)).2 .nil)))))
    refine k q _ F1 _ _ (S1.allocOwn hp (ov := .lst ((as.map fun z => (z.1.2.1, z.2)).map dR4)) ⟨_, upd_same, hd⟩) e1 (h _ ?_ ?_)
    · rw [← z2]
      exact pa.map _
    · rw [List.map_map]
      rw [List.map_map] at srt
      exact srt
end
end Dl

set_option Elab.async false
set_option linter.all false
set_option maxRecDepth 100000
set_option maxHeartbeats 2000000
/-! D57: defs with *args over data. -/
namespace Dl
open PySem PySem.Spec PyProof.Rows L2
theorem cxUpN {P : Program} {w : World} : StX.CXUp (L2N.CX P w) := by
  rintro outer s H s2 H2 E e s' un kp ho ⟨a, B, H', cls, d, ea, fl, hok, ub, na, os, ag, he⟩
  refine ⟨a, B, H', cls, d, ea, fl, hok, ⟨fun b o q n hb => ub.keep b o (kp b o q) (un.free b o q n (by simp)) hb, fun b o q hb => ub.slot b o (kp b o q) hb, fun b o q n => ub.free b o (kp b o q) (un.free b o q n (by simp)),
    fun b o q hb => ub.there b o (kp b o q) hb, fun b xs q => ub.tups b xs (un.tups b xs q), fun b o xs q => ub.frzs b o xs (un.frzs b o xs q), fun b ps q => ?_⟩, na, os.trans ho, ag, he⟩
  obtain ⟨m1, e1⟩ := un.tbls b ps q
  obtain ⟨m2, e2⟩ := ub.tbls b _ e1
  exact ⟨m1 ++ m2, by rw [e2, Array.append_assoc]⟩
/-- the body of a def, walked over data, at the machine's level (the second half of fn_bodyC) -/
theorem body_run {M : Mach} {qual : Str} {st : Stmt} {f : Addr} {fd : FuncData} {N vn ps gl : List Str} {k : Nat} {sp : DSp} (S : FnScope N ps (defScope st)) (hb : defB (defScope st) vn gl = true)
    (body : ∀ (X : Cx) (B : Bs) (ds : List D) (O : Own) (Φ : D → Own → Prop) (Ψ : XD → Own → Prop), Body M X B N vn gl (defScope st) k Ψ → (∃ L, X.env = envOfC qual (defScope st) L f fd.code) → sp ds O Φ Ψ → WSs X B (startD N ds) O (defBody st) (EndsD.fn Φ))
    (cdv : Value) (hcd : fd.code = cdv) (A : Around) (outer : List Env) (s : Shared) (H : Hp) (vs : List V) (Q : VK) (E : XK) (hr : Room k (A.deeper (envOfC qual (defScope st) s.heap.objs.size f cdv))) (h : liftSp M.K sp vs H Q E) :
    ∃ t, PSs (cxOf (L2N.CX M.P M.w) M.P M.w M.K M.mg M.base N qual (defScope st) f cdv A outer s H E) (defBody st) t ∧ t { nx := fun _ H' => Q .non H', rt := Q } (L2.start N vs) H := by
  unfold defB at hb
  rw [Bool.and_eq_true, List.all_eq_true, List.all_eq_true] at hb
  obtain ⟨hb1, hb2⟩ := hb
  obtain ⟨F0, O, ds, Φ, Ψ, S0, rs, hs, q1, q2⟩ := h
  have hlen : vs.length = ds.length := rs.length
  have bd : Body M (cxOf (L2N.CX M.P M.w) M.P M.w M.K M.mg M.base N qual (defScope st) f cdv A outer s H E) ⟨F0, H, keys O⟩ N vn gl (defScope st) k Ψ := by
    refine ⟨⟨rfl, rfl, rfl, S.kind, S.nd, rfl, passes_of rfl, hr.units, fun y hy => ?_, fun y hy => ?_, fun y hy => ?_⟩, hr, ?_, rfl, rfl⟩
    · have z := hb1 y (contains_mem hy)
      rw [Bool.and_eq_true] at z
      exact vis_of z.1
    · have z := hb1 y (contains_mem hy)
      rw [Bool.and_eq_true] at z
      exact ⟨loc_of z.2, .inl rfl⟩
    · exact gl_of (hb2 y (contains_mem hy))
    · refine (L2N.takes_of rfl rfl rfl rfl).imp fun cls dd σ H' w => ?_
      obtain ⟨y, G, O', F', S', xr, w⟩ := w
      exact q2 cls dd F' H' y O' G σ S' xr w
  refine ⟨_, pss_sem, ?_⟩
  refine body _ _ ds O Φ Ψ bd ⟨s.heap.objs.size, by rw [hcd]; rfl⟩ hs F0 (L2.start N vs) H ⟨?_, fun i d e => ?_, S0.ex, S0.nd, S0.own, S0.bF, S0.bH⟩ _ ⟨fun G' O' F' σ' H' S' e' p => q1 .non F' H' .non O' G' σ' S' .non p, fun G' O' F' σ' H' v d S' e' r' p => q1 v F' H' d O' G' σ' S' r' p, fun _ _ _ _ _ _ _ p => p.elim, fun _ _ _ _ _ _ _ p => p.elim⟩
  · unfold L2.start startD
    rw [List.length_append, List.length_append, List.length_map, List.length_map, List.length_replicate, List.length_replicate, hlen]
  · unfold startD at e
    unfold L2.start
    by_cases hi : i < ds.length
    · rw [List.getElem?_append_left (by rw [List.length_map]; exact hi), List.getElem?_map] at e
      cases e2 : ds[i]? with
      | none => rw [e2] at e; cases e
      | some d' =>
        rw [e2] at e
        cases e
        obtain ⟨v, h1, h2⟩ := rs.get e2
        refine ⟨v, ?_, h2⟩
        rw [List.getElem?_append_left (by rw [List.length_map, hlen]; exact hi), List.getElem?_map, h1] <;> rfl
    · rw [List.getElem?_append_right (by rw [List.length_map]; omega), List.getElem?_replicate] at e
      split at e <;> cases e
/-- what is promised: ahead n by place, behind them the keywords' values, last the tuple of all that is left over -/
def liftSt (K : PySem.W.Frag) (sp : DSp) (n : Nat) (vs zs : List V) (H : Hp) (Q : VK) (E : XK) : Prop := ∃ F O ds es Φ Ψ, Sat K ⟨F, H, keys O⟩ [] O F [] H ∧ Reps K F vs ds ∧ Reps K F zs es ∧ sp (ds.take n ++ es ++ [.tup (ds.drop n)]) O Φ Ψ ∧
  (∀ v F' H' d O' G σ, Sat K ⟨F, H, keys O⟩ G O' F' σ H' → Rep K F' v d → Φ d O' → Q v H') ∧ (∀ cls dd F' H' x O' G σ, Sat K ⟨F, H, keys O⟩ G O' F' σ H' → XRep K F' x cls dd → Ψ x O' → E cls dd H')
theorem reps_take {K : PySem.W.Frag} {F : Hp} : ∀ {vs : List V} {ds : List D} (n : Nat), Reps K F vs ds → Reps K F (vs.take n) (ds.take n)
  | _, _, 0, _ => .nil
  | _, _, _ + 1, .nil => .nil
  | _, _, n + 1, .cons a r => .cons a (reps_take n r)
theorem reps_drop {K : PySem.W.Frag} {F : Hp} : ∀ {vs : List V} {ds : List D} (n : Nat), Reps K F vs ds → Reps K F (vs.drop n) (ds.drop n)
  | _, _, 0, r => r
  | _, _, _ + 1, .nil => .nil
  | _, _, n + 1, .cons _ r => reps_drop n r
theorem liftSt_sp {K : PySem.W.Frag} {sp : DSp} {n : Nat} {vs zs : List V} {H : Hp} {Q : VK} {E : XK} (h : liftSt K sp n vs zs H Q E) {p : Addr} (hp : H p = none) : liftSp K sp (vs.take n ++ zs ++ [.ref p]) (upd H p (.tup (vs.drop n))) Q E := by
  obtain ⟨F, O, ds, es, Φ, Ψ, S, r1, r2, hs, q1, q2⟩ := h
  have fr := S.fresh hp
  have S2 := S.alloc hp (.tup (vs.drop n))
  have e2 : Same F (upd F p (.tup (vs.drop n))) := same_upd fr.1
  have up : ∀ {G : Sl} {O' : Own} {F' : Hp} {σ : L2.St} {H' : Hp}, Sat K ⟨upd F p (.tup (vs.drop n)), upd H p (.tup (vs.drop n)), keys O⟩ G O' F' σ H' → Sat K ⟨F, H, keys O⟩ G O' F' σ H' := fun {G O' F' σ H'} T =>
    ⟨T.len, T.slot, T.ex, T.nd, T.own, e2.trans T.bF, fun a o e1 e3 e4 => by
      have ne : a ≠ p := fun z => by
        have e1 : H a = some o := e1
        rw [z, hp] at e1
        cases e1
      have e1 : H a = some o := e1
      have e3 : F a = none := e3
      exact T.bH a o (by show upd H p _ a = _; rw [upd_ne ne]; exact e1) (by show upd F p _ a = _; rw [upd_ne ne]; exact e3) e4⟩
  refine ⟨_, O, ds.take n ++ es ++ [.tup (ds.drop n)], Φ, Ψ, ⟨S2.len, S2.slot, S2.ex, S2.nd, S2.own, Same.refl _, fun a o e1 e3 e4 => ⟨e1, e3, e4⟩⟩, (((reps_take n r1).mono e2).append (r2.mono e2)).append (.cons (.tup (SqT.of upd_same) ((reps_drop n r1).mono e2)) .nil), hs, fun v F' H' d O' G σ T => q1 v F' H' d O' G σ (up T), fun cls dd F' H' x O' G σ T => q2 cls dd F' H' x O' G σ (up T)⟩
/-- a def with a star parameter behind n others, with the keywords ks -/
def StOk (M : Mach) (k : Nat) (f : Addr) (n : Nat) (ks : List Str) (sp : DSp) : Prop :=
  ∀ (A : Around) (outer : List Env) (s : Shared) (H : Hp) (us ws : List Value) (vs zs : List V) (Q : VK) (E : XK), Room k A → Env0 M.P M.w M.K M.mg M.base A outer s H → Vals vs us → Vals zs ws → n ≤ us.length → ws.length = ks.length → us.length ≤ sizeLine → liftSt M.K sp n vs zs H Q E →
    codeAny (model M.P M.w) A (.call (.ref f) ⟨us, ks.zip ws⟩) (CR (L2N.CX M.P M.w) outer M.P M.w H s Q E) s
theorem StOk.mono {M : Mach} {j k : Nat} {f : Addr} {n : Nat} {ks : List Str} {sp : DSp} (h : StOk M j f n ks sp) (l : j ≤ k) : StOk M k f n ks sp := fun A outer s H us ws vs zs Q E hr => h A outer s H us ws vs zs Q E (hr.mono l)
theorem vals_take : ∀ {vs : List V} {us : List Value} (n : Nat), Vals vs us → Vals (vs.take n) (us.take n)
  | _, _, 0, _ => .nil
  | _, _, _ + 1, .nil => .nil
  | _, _, n + 1, .cons a r => .cons a (vals_take n r)
theorem vals_drop : ∀ {vs : List V} {us : List Value} (n : Nat), Vals vs us → Vals (vs.drop n) (us.drop n)
  | _, _, 0, r => r
  | _, _, _ + 1, .nil => .nil
  | _, _, n + 1, .cons _ r => vals_drop n r
/-- .. by its body -/
theorem star_body {M : Mach} {x qual : Str} {st : Stmt} {f : Addr} {fd : FuncData} {N vn ps ks gl : List Str} {pv : Str} {k n : Nat} {sp : DSp} (F : Fun M.K x qual st f fd) (S : FnScope N (ps ++ ks ++ [pv]) (defScope st)) (hn : ps.length = n) (hb : defB (defScope st) vn gl = true)
    (hbind : ∀ us ws rest : List Value, us.length = n → ws.length = ks.length → bindArgs fd ⟨us ++ rest, ks.zip ws⟩ = (newTuple rest >>= fun t => pure (ps.zip us ++ ks.zip ws ++ [(pv, t)])))
    (body : ∀ (X : Cx) (B : Bs) (ds : List D) (O : Own) (Φ : D → Own → Prop) (Ψ : XD → Own → Prop), Body M X B N vn gl (defScope st) k Ψ → sp ds O Φ Ψ → WSs X B (startD N ds) O (defBody st) (EndsD.fn Φ)) :
    StOk M (k + 1) f n ks sp := by
  intro A outer s H us ws vs zs Q E hr e0 r rz hnu hws hz h
  obtain ⟨oc, od, kV, doc, pm, an, cdv, ct, osl, efd, lk, hcd⟩ := F.ex
  have hnH : H s.heap.objs.size = none := e0.hok.fresh (Nat.le_refl _)
  have r1 := vals_take n r
  have r2 := vals_drop n r
  have hl1 : (us.take n).length = n := by rw [List.length_take]; omega
  have hl2 : (us.drop n).length ≤ sizeLine := by rw [List.length_drop]; omega
  have eus : us.take n ++ us.drop n = us := List.take_append_drop n us
  have hcode : fd.code = cdv := by rw [efd] <;> rfl
  rw [efd] at lk hbind
  refine StX.run_bnd (CX := L2N.CX M.P M.w) lk hcd S hr e0 (G := fun xs H2 => ∃ p, H p = none ∧ xs = vs.take n ++ zs ++ [V.ref p] ∧ H2 = upd H p (.tup (vs.drop n))) (fun A' Ex Q' hq => ?_) fun s2 H2 xs ⟨p, hp, ex, eH⟩ hr' => ?_
  · have hbb := hbind (us.take n) ws (us.drop n) hl1 hws
    rw [eus] at hbb
    rw [hbb]
    refine wpAny_bind (wpAny_newTuple (wpAny_pure ?_) hl2)
    have new : ObjOk M.P M.w (upd H s.heap.objs.size (.tup (vs.drop n))) (s.heap.push ({ cls := .type "tuple", data := .seq (us.drop n).toArray } : Obj)) s.heap.objs.size (.tup (vs.drop n)) := ⟨by rw [r2.length]; exact hl2, us.drop n, r2, ⟨_, Heap.get?_push_size _ rfl, rfl, _, rfl⟩⟩
    have un := StX.un_laid (fs := frs outer) (s := s) (o := ({ cls := .type "tuple", data := .seq (us.drop n).toArray } : Obj)) (u := .tup (vs.drop n)) hnH
    have z := hq _ _ (vs.take n ++ zs ++ [V.ref s.heap.objs.size]) (us.take n ++ ws ++ [Value.ref s.heap.objs.size]) (StX.env0_laid e0 new) un rfl (fun e s' => cxUpN outer s H _ _ E e s' un (fun b o q => Heap.get?_push_of_some _ q) rfl) ((r1.append rz).append (.cons rfl .nil))
      (by rw [List.length_append, List.length_append, List.length_append, List.length_append, r1.length, rz.length, hl1, hws, hn] <;> rfl) ⟨_, hnH, rfl, rfl⟩
    rw [List.zip_append (by rw [List.length_append, List.length_append, hl1, hws, hn]), List.zip_append (by rw [hl1, hn])] at z
    exact z
  · subst ex eH
    exact body_run S hb (fun X B ds O Φ Ψ bd _ h => body X B ds O Φ Ψ bd h) cdv hcode A outer s2 _ _ Q E hr' (liftSt_sp h hp)
/-- the def x of the module with a star parameter -/
def GSt (M : Mach) (x : Str) (n : Nat) (ks : List Str) (k : Nat) (sp : DSp) : Prop := ∃ f : Addr, M.mg x = some (.ref f) ∧ PySem.W.keepIn M.K (.ref f) = true ∧ StOk M k f n ks sp
theorem GSt.mono {M : Mach} {x : Str} {n : Nat} {ks : List Str} {j k : Nat} {sp : DSp} (h : GSt M x n ks j sp) (l : j ≤ k) : GSt M x n ks k sp := by
  obtain ⟨f, h1, h2, h3⟩ := h
  exact ⟨f, h1, h2, h3.mono l⟩
theorem gst_mk {M : Mach} {x qual : Str} {st : Stmt} {f : Addr} {fd : FuncData} {n : Nat} {ks : List Str} {k : Nat} {sp : DSp} (hm : M.mg x = some (.ref f)) (F : Fun M.K x qual st f fd) (h : StOk M k f n ks sp) : GSt M x n ks k sp := ⟨f, hm, F.kp, h⟩
end Dl

set_option Elab.async false
set_option linter.all false
set_option maxRecDepth 100000
set_option maxHeartbeats 2000000
/-! D58: calls of defs with *args over data. -/
namespace Dl
open PySem PySem.Spec PyProof.Rows L2
section
variable {M : Mach} {X : Cx} {k n : Nat} {f : Addr} {ks : List Str} {sp : DSp} {E : L2.St → XK} {x : Str} {p pos : Pos} {e : Expr} {es : List Expr} {kws : List Keyword} {t tk : TA}
def tCallSt (K : PySem.W.Frag) (sp : DSp) (n : Nat) (ks : List Str) (E : L2.St → XK) (t tk : TA) : TE := fun σ H Q => t σ H fun vs H1 => tk σ H1 fun zs H2 => n ≤ vs.length ∧ zs.length = ks.length ∧ vs.length ≤ sizeLine ∧ liftSt K sp n vs zs H2 Q (E σ)
theorem run_st {pins : List (Addr × Obj)} {σ : L2.St} {H : Hp} {s : Shared} {Q : VK} {us ws : List Value} {vs zs : List V} (F : StOk ⟨X.prog, X.w, X.K, X.mg, X.base⟩ k f n ks sp) (hr : Room k X.A) (hx : PassesAt (L2N.CX X.prog X.w) X σ (E σ))
    (I : Inv X pins σ H s) (r : Vals vs us) (rz : Vals zs ws) (h1 : n ≤ vs.length) (h2 : zs.length = ks.length) (h3 : vs.length ≤ sizeLine) (h : liftSt X.K sp n vs zs H Q (E σ)) : wpAny (model X.prog X.w) X.A (call (.ref f) us (ks.zip ws)) (EP X pins σ Q) X.xe s := by
  refine wpAny_call (codeAny_mono (F X.A X.stack s H us ws vs zs Q (E σ) hr I.env0 r rz (by rw [← r.length]; exact h1) (by rw [← rz.length]; exact h2) (by rw [← r.length]; exact h3) h) fun r s' hq => ?_)
  cases r with
  | error e => exact hx pins H s e s' I hq
  | ok fl =>
    cases fl with
    | ret u => exact I.after hq
    | next => exact False.elim hq
    | brk => exact False.elim hq
    | cont => exact False.elim hq
theorem pe_callSt (F : StOk ⟨X.prog, X.w, X.K, X.mg, X.base⟩ k f n ks sp) (hr : Room k X.A) (hg : Gl X x) (hm : X.mg x = some (.ref f)) (hk : PySem.W.keepIn X.K (.ref f) = true) (hx : ∀ σ, PassesAt (L2N.CX X.prog X.w) X σ (E σ))
    (ha : PA X (e :: es) t) (hkw : PK X kws tk) (hall : (backToKw pos (keywordEach kws X.env)).all (·.1.isSome) = true := by rfl) (hks : (backToKw pos (keywordEach kws X.env)).filterMap (·.1) = ks := by rfl)
    (hdb : (x == ("__debug__" : Str)) = false := by decide) (he : starEach (e :: es) X.env = (false, eval e X.env) :: starEach es X.env := by exact star_cons rfl)
    (hpl : ((backTo pos (starEach (e :: es) X.env)).any (·.1) || (backToKw pos (keywordEach kws X.env)).any (·.1.isNone)) = false := by rfl) :
    PE X (.Call (.Name x p) (e :: es) kws pos) (tCallSt X.K sp n ks E t tk) := by
  refine ⟨fun pins s σ H Q I h => ?_⟩
  refine wpAny_Call_Name_kw (ld_glob I hg hm ?_ hdb)
  refine PySem.W.callWith_KW (h₀ := X.base) I.ok.mod.kin hk hall (thn (ha.run pos pins s σ H _ I h) fun us s1 ⟨vs, H1, I1, r, q⟩ => ?_) hpl he
  refine thn (hkw.run pos pins s1 σ H1 _ I1 q) fun ws s2 ⟨zs, H2, I2, rz, q1, q2, q3, q4⟩ => ⟨I2.kIn, ?_⟩
  rw [hks]
  exact run_st F hr (hx σ) I2 r rz q1 q2 q3 q4
end
section
variable {M : Mach} {X : Cx} {N : List Str} {sc : Scope} {vb lb gb : Str → Bool} {B : Bs} {G : Sl} {O : Own} {e : Expr} {es : List Expr} {pos p : Pos} {x : Str} {k n : Nat} {ks : List Str} {sp : DSp} {Ψ : Xk}
theorem post_st {Φ : D → Own → Prop} {F1 H1 : Hp} {σ : L2.St} {O1 : Own} {vs zs : List V} {ds es : List D} {Q : VK} {K : PySem.W.Frag} (S1 : Sat K B G O1 F1 σ H1) (r1 : Reps K F1 vs ds) (r2 : Reps K F1 zs es) (p1 : DPost sp G Φ Ψ (ds.take n ++ es ++ [.tup (ds.drop n)]) O1)
    (k : ∀ v F' H' d O', Sat K B G O' F' σ H' → Same F1 F' → Rep K F' v d → Φ d O' → Q v H') : liftSt K sp n vs zs H1 Q (fun cls dd H => wD K B Ψ cls dd σ H) := by
  obtain ⟨Oa, Ob, hp, h⟩ := p1
  have S2 := S1.perm hp
  refine ⟨F1, Oa, ds, es, _, _, S2.part (Gs := []) (τ := []) rfl (fun i d e => by simp at e), r1, r2, h, fun v F' H' d O' G' σ' S' r' q' => ?_, fun cls dd F' H' y O' G' σ' S' xr q' => ?_⟩
  · exact k v F' H' d (O' ++ Ob) (S2.frame S') S'.bF r' q'
  · exact ⟨y, G, O' ++ Ob, F', S2.frame S', xr, q'⟩
/-- x(a, .., *..) -/
theorem we_callSt {kws : List Keyword} {Φ : D → Own → Prop} (C : Cxt M X N sc vb lb gb) (f : GSt M x n ks k sp) (hr : Room k X.A) (tk : L2N.Takes X (wD X.K B Ψ)) (hg : gb x = true)
    (h : WA X B G O (e :: es) fun ds O1 => WK X B G O1 kws fun zs O2 => n ≤ ds.length ∧ zs.length = ks.length ∧ ds.length ≤ 1000000 ∧ DPost sp G Φ Ψ (ds.take n ++ zs ++ [.tup (ds.drop n)]) O2)
    (hall : (backToKw pos (keywordEach kws X.env)).all (·.1.isSome) = true := by rfl) (hks : (backToKw pos (keywordEach kws X.env)).filterMap (·.1) = ks := by rfl)
    (he : starEach (e :: es) X.env = (false, eval e X.env) :: starEach es X.env := by exact star_cons rfl) (hpl : ((backTo pos (starEach (e :: es) X.env)).any (·.1) || (backToKw pos (keywordEach kws X.env)).any (·.1.isNone)) = false := by rfl) : WE X B G O (.Call (.Name x p) (e :: es) kws pos) Φ := fun F σ H S Q kk => by
  obtain rfl := C.hM
  obtain ⟨f, h1, h2, h4⟩ := f
  refine sem (pe_callSt (E := fun σ cls dd H => wD X.K B Ψ cls dd σ H) h4 hr (C.gl x hg).1 h1 h2 (fun σ => L2N.passAt tk σ) pa_sem pk_sem hall hks (C.gl x hg).2 he hpl) ?_
  refine h F σ H S _ fun vs F1 H1 ds O1 S1 e1 r1 p1 => ?_
  refine p1 F1 σ H1 S1 _ fun zs F2 H2 es2 O2 S2 e2 r2 ⟨a1, a2, a3, p2⟩ => ⟨by rw [r1.length]; exact a1, by rw [r2.length]; exact a2, by rw [r1.length]; exact len_line a3, ?_⟩
  exact post_st S2 (r1.mono e2) r2 p2 fun v F' H' d O' S' e' r' q' => kk v F' H' d O' S' ((e1.trans e2).trans e') r' q'
/-- x() -/
theorem we_callSt0 {Φ : D → Own → Prop} (C : Cxt M X N sc vb lb gb) (f : GSt M x 0 [] k sp) (hr : Room k X.A) (tk : L2N.Takes X (wD X.K B Ψ)) (hg : gb x = true) (h : DPost sp G Φ Ψ [.tup []] O) : WE X B G O (.Call (.Name x p) [] [] pos) Φ := fun F σ H S Q kk => by
  obtain rfl := C.hM
  obtain ⟨f, h1, h2, h4⟩ := f
  refine ⟨fun pins s I => ?_⟩
  refine wpAny_Call_Name_kw (ld_glob I (C.gl x hg).1 h1 ?_ (C.gl x hg).2)
  refine PySem.W.callWith_K0 I.kIn h2 (run_st (us := []) (ws := []) (vs := []) (zs := []) (E := fun σ cls dd H => wD X.K B Ψ cls dd σ H) h4 hr (L2N.passAt tk σ) I .nil .nil (Nat.le_refl _) rfl (Nat.zero_le _) (post_st S .nil .nil h fun v F' H' d O' S' e' r' q' => kk v F' H' d O' S' e' r' q'))
end
end Dl

set_option Elab.async false
set_option linter.all false
set_option maxRecDepth 100000
set_option maxHeartbeats 2000000
/-! D59: a def with *args called by a local name that holds it. -/
namespace Dl
open PySem PySem.Spec PyProof.Rows L2
section
variable {X : Cx} {k n i : Nat} {f : Addr} {ks : List Str} {sp : DSp} {E : L2.St → XK} {x : Str} {p pos : Pos} {e : Expr} {es : List Expr} {kws : List Keyword} {t tk : TA}
theorem pe_callStV (hi : X.N[i]? = some x) (hv : Vis X.env.scope x) (hd : (x == ("__debug__" : Str)) = false) (hcd : (x == ("__classdict__" : Str)) = false) (F : StOk ⟨X.prog, X.w, X.K, X.mg, X.base⟩ k f n ks sp) (hr : Room k X.A) (hk : PySem.W.keepIn X.K (.ref f) = true) (hx : ∀ σ, PassesAt (L2N.CX X.prog X.w) X σ (E σ))
    (ha : PA X (e :: es) t) (hkw : PK X kws tk) (hall : (backToKw pos (keywordEach kws X.env)).all (·.1.isSome) = true := by rfl) (hks : (backToKw pos (keywordEach kws X.env)).filterMap (·.1) = ks := by rfl)
    (he : starEach (e :: es) X.env = (false, eval e X.env) :: starEach es X.env := by exact star_cons rfl)
    (hpl : ((backTo pos (starEach (e :: es) X.env)).any (·.1) || (backToKw pos (keywordEach kws X.env)).any (·.1.isNone)) = false := by rfl) :
    PE X (.Call (.Name x p) (e :: es) kws pos) (fun σ H Q => σ[i]? = some (some (.ref f)) ∧ tCallSt X.K sp n ks E t tk σ H Q) := by
  refine ⟨fun pins s σ H Q I ⟨hs, h⟩ => ?_⟩
  refine wpAny_Call_Name_kw (thn ((pe_var (pos := p) (i := i) hi hv hd hcd).run pins s σ H (fun v H1 => v = .ref f ∧ H1 = H) I ⟨.ref f, hs, rfl, rfl⟩) fun u s1 ⟨v, H1, I1, r1, ev, eH⟩ => ?_)
  subst ev
  rw [eH] at I1
  obtain rfl : u = Value.ref f := r1
  refine PySem.W.callWith_KW (h₀ := X.base) I1.ok.mod.kin hk hall (thn (ha.run pos pins s1 σ H _ I1 h) fun us s2 ⟨vs, H2, I2, r, q⟩ => ?_) hpl he
  refine thn (hkw.run pos pins s2 σ H2 _ I2 q) fun ws s3 ⟨zs, H3, I3, rz, q1, q2, q3, q4⟩ => ⟨I3.kIn, ?_⟩
  rw [hks]
  exact run_st F hr (hx σ) I3 r rz q1 q2 q3 q4
end
section
variable {M : Mach} {X : Cx} {N : List Str} {sc : Scope} {vb lb gb : Str → Bool} {B : Bs} {G : Sl} {O : Own} {e : Expr} {es : List Expr} {pos p : Pos} {x : Str} {k n : Nat} {ks : List Str} {sp : DSp} {Ψ : Xk}
/-- x(a, ..), x a local name that holds such a def -/
theorem we_callStV {f : Addr} {Φ : D → Own → Prop} (C : Cxt M X N sc vb lb gb) (hx : VarAt N G x (.obj f)) (hv : vb x = true) (h2 : PySem.W.keepIn M.K (.ref f) = true) (h4 : StOk M k f n [] sp) (hr : Room k X.A) (tk : L2N.Takes X (wD X.K B Ψ))
    (h : WA X B G O (e :: es) fun ds O1 => n ≤ ds.length ∧ ds.length ≤ 1000000 ∧ DPost sp G Φ Ψ (ds.take n ++ [.tup (ds.drop n)]) O1)
    (he : starEach (e :: es) X.env = (false, eval e X.env) :: starEach es X.env := by exact star_cons rfl) (hpl : ((backTo pos (starEach (e :: es) X.env)).any (·.1) || (backToKw pos (keywordEach [] X.env)).any (·.1.isNone)) = false := by rfl) : WE X B G O (.Call (.Name x p) (e :: es) [] pos) Φ := fun F σ H S Q kk => by
  obtain rfl := C.hM
  obtain ⟨i, g1, g2⟩ := hx.ix
  obtain ⟨w1, w2, w3⟩ := C.vis x hv
  obtain ⟨v, ev, rv⟩ := S.slot i _ g2
  cases rv
  refine sem (pe_callStV (i := i) (kws := []) (E := fun σ cls dd H => wD X.K B Ψ cls dd σ H) (by rw [C.hN]; exact g1) w1 w2 w3 h4 hr h2 (fun σ => L2N.passAt tk σ) pa_sem pk_sem rfl rfl he hpl) ?_
  refine ⟨ev, h F σ H S _ fun vs F1 H1 ds O1 S1 e1 r1 ⟨a1, a3, p2⟩ => ?_⟩
  refine wk_nil (Φ := fun zs O2 => zs = [] ∧ O2 = O1) ⟨rfl, rfl⟩ F1 σ H1 S1 _ fun zs F2 H2 es2 O2 S2 e2 r2 ⟨b1, b2⟩ => ?_
  subst b1 b2
  cases r2
  refine ⟨by rw [r1.length]; exact a1, rfl, by rw [r1.length]; exact len_line a3, ?_⟩
  exact post_st S2 (r1.mono e2) .nil (by rw [List.append_nil]; exact p2) fun v F' H' d O' S' e' r' q' => kk v F' H' d O' S' ((e1.trans e2).trans e') r' q'
/-- x() -/
theorem we_callStV0 {f : Addr} {Φ : D → Own → Prop} (C : Cxt M X N sc vb lb gb) (hx : VarAt N G x (.obj f)) (hv : vb x = true) (h2 : PySem.W.keepIn M.K (.ref f) = true) (h4 : StOk M k f 0 [] sp) (hr : Room k X.A) (tk : L2N.Takes X (wD X.K B Ψ)) (h : DPost sp G Φ Ψ [.tup []] O) :
    WE X B G O (.Call (.Name x p) [] [] pos) Φ := fun F σ H S Q kk => by
  obtain rfl := C.hM
  obtain ⟨i, g1, g2⟩ := hx.ix
  obtain ⟨w1, w2, w3⟩ := C.vis x hv
  obtain ⟨v, ev, rv⟩ := S.slot i _ g2
  cases rv
  refine ⟨fun pins s I => ?_⟩
  refine wpAny_Call_Name_kw (thn ((pe_var (pos := p) (i := i) (by rw [C.hN]; exact g1) w1 w2 w3).run pins s σ H (fun v H1 => v = .ref f ∧ H1 = H) I ⟨.ref f, ev, rfl, rfl⟩) fun u s1 ⟨v, H1, I1, r1, ev, eH⟩ => ?_)
  subst ev
  rw [eH] at I1
  obtain rfl : u = Value.ref f := r1
  exact PySem.W.callWith_K0 I1.kIn h2 (run_st (us := []) (ws := []) (vs := []) (zs := []) (E := fun σ cls dd H => wD X.K B Ψ cls dd σ H) h4 hr (L2N.passAt tk σ) I1 .nil .nil (Nat.le_refl _) rfl (Nat.zero_le _) (post_st S .nil .nil h fun v F' H' d O' S' e' r' q' => kk v F' H' d O' S' e' r' q'))
end
end Dl

set_option Elab.async false
set_option linter.all false
set_option maxRecDepth 100000
set_option maxHeartbeats 2000000
/-! D60: a tuple times a number. -/
namespace Dl
open PySem PySem.Spec PyProof.Rows L2
theorem Reps.rep {K : PySem.W.Frag} {F : Hp} {vs : List V} {ds : List D} (r : Reps K F vs ds) : ∀ n : Nat, Reps K F (List.replicate n vs).flatten (List.replicate n ds).flatten
  | 0 => .nil
  | n + 1 => by
    rw [List.replicate_succ, List.replicate_succ, List.flatten_cons, List.flatten_cons]
    exact r.append (Reps.rep r n)
section
variable {M : Mach} {X : Cx} {N : List Str} {sc : Scope} {vb lb gb : Str → Bool} {B : Bs} {G : Sl} {O : Own} {a b : Expr} {pos : Pos}
def dRepT : DR2 := fun x y O Φ => ∃ xs k, x = .tup xs ∧ y = .int k ∧ xs ≠ [] ∧ 2 ≤ k ∧ k ≤ 1000 ∧ xs.length ≤ 1000 ∧ Φ (.tup (List.replicate k.toNat xs).flatten) O
theorem dop_repT : DOp X (rRepT X.K) dRepT := fun B G O F σ H x y dx dy Φ S rx ry h Q k => by
  obtain ⟨xs, j, rfl, rfl, hne, h1, h2, hl, p⟩ := h
  cases ry
  cases rx with
  | tup q1 r1 =>
    rename_i a vs
    refine ⟨a, j, vs, rfl, rfl, sqT_mono S.ex q1, fun z => hne (r1.nil_iff.mp z), h1, h2, by rw [r1.length]; exact hl, fun p' hp => ?_⟩
    have e2 := same_upd (o := .tup (List.replicate j.toNat vs).flatten) (S.fresh hp).1
    exact k _ _ _ _ _ (S.alloc hp (.tup (List.replicate j.toNat vs).flatten)) e2 (.tup (SqT.of upd_same) ((r1.rep j.toNat).mono e2)) p
theorem pv_repT {xs : List D} {k : Int} (ha : PEv X B G O a (.tup xs)) (hb : PEv X B G O b (.int k)) (hne : xs ≠ []) (h1 : 2 ≤ k) (h2 : k ≤ 1000) (hl : xs.length ≤ 1000) : PEv X B G O (.BinOp a .Mult b pos) (.tup (List.replicate k.toNat xs).flatten) :=
  pv_op op_repT dop_repT ha hb ⟨xs, k, rfl, rfl, hne, h1, h2, hl, rfl, rfl⟩
end
end Dl

set_option Elab.async false
set_option linter.all false
set_option maxRecDepth 100000
set_option maxHeartbeats 2000000
/-! D61: cells that are lent, lambdas with a closure: at the machine's level. -/
namespace Dl
open PySem PySem.Spec PyProof.Rows L2 LamX
def addL (H : Hp) (ps : List (Addr × Obj)) : Hp := fun b => match ps.lookup b with
  | some o => some (CelO b o)
  | none => H b
def delL (H : Hp) (cs : List Addr) : Hp := fun b => if b ∈ cs then none else H b
theorem mem_lk {ps : List (Addr × Obj)} {b : Addr} {o : Obj} (h : ps.lookup b = some o) : (b, o) ∈ ps := by
  induction ps with
  | nil => cases h
  | cons x r ih =>
    obtain ⟨a, y⟩ := x
    rw [List.lookup_cons] at h
    split at h
    · rename_i e
      cases h
      rw [eq_of_beq e]
      exact List.mem_cons_self
    · exact List.mem_cons_of_mem _ (ih h)
theorem lookup_out {ps : List (Addr × Obj)} {b : Addr} (h : b ∉ ps.map (·.1)) : ps.lookup b = none := by
  cases e : ps.lookup b with
  | none => rfl
  | some o => exact (h (List.mem_map.mpr ⟨(b, o), mem_lk e, rfl⟩)).elim
theorem lookup_nd {α β : Type} [BEq α] [LawfulBEq α] : ∀ {ps : List (α × β)} {b : α} {o : β}, (ps.map (·.1)).Nodup → (b, o) ∈ ps → ps.lookup b = some o
  | (x, y) :: r, b, o, nd, h => by
    obtain ⟨n1, n2⟩ := List.nodup_cons.mp (show (x :: r.map (·.1)).Nodup from nd)
    rw [List.lookup_cons]
    rcases List.mem_cons.mp h with e | hm
    · cases e
      simp
    · have ne : (b == x) = false := by
        rw [beq_eq_false_iff_ne]
        intro z
        exact n1 (z ▸ List.mem_map.mpr ⟨(b, o), hm, rfl⟩)
      rw [ne]
      exact lookup_nd n2 hm
theorem addL_out {H : Hp} {ps : List (Addr × Obj)} {b : Addr} (h : b ∉ ps.map (·.1)) : addL H ps b = H b := by
  unfold addL
  rw [lookup_out h]
theorem addL_in {H : Hp} {ps : List (Addr × Obj)} {p : Addr × Obj} (nd : (ps.map (·.1)).Nodup) (h : p ∈ ps) : addL H ps p.1 = some (CelO p.1 p.2) := by
  unfold addL
  rw [lookup_nd nd (show (p.1, p.2) ∈ ps from h)]
theorem delL_in {H : Hp} {cs : List Addr} {b : Addr} (h : b ∈ cs) : delL H cs b = none := if_pos h
theorem delL_out {H : Hp} {cs : List Addr} {b : Addr} (h : b ∉ cs) : delL H cs b = H b := if_neg h
theorem celO_ok {P : Program} {w : World} {H : Hp} {h : Heap} {c : Addr} {o : Obj} (e : h.get? c = some o) : ObjOk P w H h c (CelO c o) := ⟨e, ⟨o, e⟩, fun h1 h2 z st => st _ z⟩
section
variable {P : Program} {w : World} {H H' : Hp} {h h' : Heap} {ps : List (Addr × Obj)} {cs : List Addr} {fs : List Addr}
theorem hok_add (x : HOk P w H h) (hp : ∀ p ∈ ps, h.get? p.1 = some p.2) (hn : ∀ p ∈ ps, H p.1 = none) : HOk P w (addL H ps) h := fun a u e => by
  have out : ∀ b o, H b = some o → b ∉ ps.map (·.1) := fun b o q hm => by
    obtain ⟨p, hp', rfl⟩ := List.mem_map.mp hm
    rw [hn p hp'] at q
    cases q
  unfold addL at e
  split at e
  · rename_i o ho
    cases e
    exact celO_ok (hp (a, o) (mem_lk ho))
  · exact (x a u e).stay (fun b u _ q => q) (fun b q => by rw [addL_out (out b _ q)]; exact q) (fun b xs q => by rw [addL_out (out b _ q)]; exact q)
theorem hok_del (x : HOk P w H h) (hc : ∀ c ∈ cs, ∃ o, H c = some (CelO c o)) : HOk P w (delL H cs) h := fun a u e => by
  unfold delL at e
  split at e
  · cases e
  · refine (x a u e).stay (fun b u _ q => q) (fun b q => ?_) (fun b xs q => ?_)
    · rw [delL_out (fun hm => by obtain ⟨o, z⟩ := hc b hm; rw [q] at z; cases z)]
      exact q
    · rw [delL_out (fun hm => by obtain ⟨o, z⟩ := hc b hm; rw [q] at z; cases z)]
      exact q
/-- lent cells taken back -/
theorem un_unlend (u : Un fs [] (addL H ps) H' h h') (nd : (ps.map (·.1)).Nodup) (hp : ∀ p ∈ ps, h.get? p.1 = some p.2 ∧ H p.1 = none ∧ H' p.1 = some (CelO p.1 p.2) ∧ h'.get? p.1 = some p.2) : Un fs [] H (delL H' (ps.map (·.1))) h h' := by
  have out : ∀ b o, H b = some o → b ∉ ps.map (·.1) := fun b o q hm => by
    obtain ⟨p, hp', rfl⟩ := List.mem_map.mp hm
    rw [(hp p hp').2.1] at q
    cases q
  have same : ∀ b o, b ∈ ps.map (·.1) → h.get? b = some o → h'.get? b = some o := fun b o hm q => by
    obtain ⟨p, hp', rfl⟩ := List.mem_map.mp hm
    obtain ⟨q1, _, _, q4⟩ := hp p hp'
    rw [q1] at q
    cases q
    exact q4
  refine ⟨fun b o e n hb hx => ?_, fun b o e n hb hx => ?_, fun b o e n hx => ?_, u.there, fun b xs e => ?_, fun b o v e => ?_, fun b qs e => ?_⟩
  · by_cases hm : b ∈ ps.map (·.1)
    · exact same b o hm e
    · exact u.keep b o e (by rw [addL_out hm]; exact n) hb hx
  · by_cases hm : b ∈ ps.map (·.1)
    · exact ⟨o.slots, same b o hm e⟩
    · exact u.slot b o e (by rw [addL_out hm]; exact n) hb hx
  · by_cases hm : b ∈ ps.map (·.1)
    · exact delL_in hm
    · rw [delL_out hm]
      exact u.free b o e (by rw [addL_out hm]; exact n) hx
  · have hm := out b _ e
    rw [delL_out hm]
    exact u.tups b xs (by rw [addL_out hm]; exact e)
  · have hm := out b _ e
    rw [delL_out hm]
    exact u.frzs b o v (by rw [addL_out hm]; exact e)
  · have hm := out b _ e
    rw [delL_out hm]
    exact u.tbls b qs (by rw [addL_out hm]; exact e)
/-- cells of a closure, back in sight -/
theorem un_relend (u : Un fs [] (delL H (ps.map (·.1))) H' h h') (hp : ∀ p ∈ ps, H p.1 = some (CelO p.1 p.2)) : Un fs [] H (addL H' ps) h h' := by
  have out : ∀ b o, H b = some o → (∀ c o', o ≠ CelO c o') → b ∉ ps.map (·.1) := fun b o q hne hm => by
    obtain ⟨p, hp', rfl⟩ := List.mem_map.mp hm
    rw [hp p hp'] at q
    cases q
    exact hne _ _ rfl
  have outn : ∀ b, H b = none → b ∉ ps.map (·.1) := fun b q hm => by
    obtain ⟨p, hp', rfl⟩ := List.mem_map.mp hm
    rw [hp p hp'] at q
    cases q
  have dn : ∀ b, H b = none → delL H (ps.map (·.1)) b = none := fun b n => by rw [delL_out (outn b n)]; exact n
  refine ⟨fun b o e n hb hx => u.keep b o e (dn b n) hb hx, fun b o e n hb hx => u.slot b o e (dn b n) hb hx, fun b o e n hx => ?_, u.there, fun b xs e => ?_, fun b o v e => ?_, fun b qs e => ?_⟩
  · rw [addL_out (outn b n)]
    exact u.free b o e (dn b n) hx
  · have hm := out b _ e (fun c o' z => by cases z)
    rw [addL_out hm]
    exact u.tups b xs (by rw [delL_out hm]; exact e)
  · have hm := out b _ e (fun c o' z => by cases z)
    rw [addL_out hm]
    exact u.frzs b o v (by rw [delL_out hm]; exact e)
  · have hm := out b _ e (fun c o' z => by cases z)
    rw [addL_out hm]
    exact u.tbls b qs (by rw [delL_out hm]; exact e)
end
section
variable {P : Program} {w : World} {K : PySem.W.Frag} {mg : Str → Option Value} {base : Heap} {A : Around} {outer : List Env} {s : Shared} {H : Hp} {ps : List (Addr × Obj)} {cs : List Addr}
theorem env0_lend (e : Env0 P w K mg base A outer s H) (hp : ∀ p ∈ ps, s.heap.get? p.1 = some p.2 ∧ H p.1 = none ∧ p.1 ∉ frs outer ∧ base.get? p.1 = none) : Env0 P w K mg base A outer s (addL H ps) := by
  refine ⟨e.frames, e.mod, fun b o q => ⟨(e.bs b o q).1, ?_⟩, e.bsz, e.funs, fun b hb => ?_, hok_add e.hok (fun p h => (hp p h).1) (fun p h => (hp p h).2.1), e.bare⟩
  · rw [addL_out (fun hm => by obtain ⟨p, hp', rfl⟩ := List.mem_map.mp hm; rw [(hp p hp').2.2.2] at q; cases q)]
    exact (e.bs b o q).2
  · rw [addL_out (fun hm => by obtain ⟨p, hp', rfl⟩ := List.mem_map.mp hm; exact (hp p hp').2.2.1 hb)]
    exact e.frf b hb
theorem env0_del (e : Env0 P w K mg base A outer s H) (hc : ∀ c ∈ cs, ∃ o, H c = some (CelO c o)) : Env0 P w K mg base A outer s (delL H cs) := by
  have n : ∀ b, H b = none → delL H cs b = none := fun b q => by
    unfold delL
    split
    · rfl
    · exact q
  exact ⟨e.frames, e.mod, fun b o q => ⟨(e.bs b o q).1, n _ (e.bs b o q).2⟩, e.bsz, e.funs, fun b hb => n _ (e.frf b hb), hok_del e.hok hc, e.bare⟩
end
/-- a call whose exception is never -/
theorem cxN_no {P : Program} {w : World} {outer : List Env} {H : Hp} {s s' : Shared} {u : Value} (h : L2N.CX P w outer H s (fun _ _ _ => False) u s') : False := by
  obtain ⟨_, _, _, _, _, _, _, _, _, _, _, _, z⟩ := h
  exact z
/-! ### own cells -/
section
variable {X : Cx} {pins : List (Addr × Obj)} {σ : L2.St} {H : Hp} {s : Shared}
theorem own_cell {i : Nat} {x : Str} {v : V} (I : Inv X pins σ H s) (hi : X.N[i]? = some x) (hs : σ[i]? = some (some v)) (hk : X.env.scope.names.lookup x = some .cell) (hf : X.fn x = true) :
    ∃ c o u, X.env.cells.lookup x = some c ∧ s.heap.get? c = some o ∧ o.data = .cell (some u) ∧ RelV v u ∧ H c = none ∧ c ∉ frs X.stack ∧ X.base.get? c = none := by
  obtain ⟨m, hn, hl⟩ := id I.loc
  obtain ⟨u, r, q⟩ := hl i x v hi hs (.inr (.inl hk))
  rcases q with ⟨k, _⟩ | ⟨_, c, hc, o, ho, hd⟩
  · rw [show X.env.scope.names.lookup x = some .local from k] at hk
    cases hk
  have ge := I.ok.cab x c hf hc
  have n0 : X.s_0.heap.get? c = none := by
    cases z : X.s_0.heap.get? c with
    | none => rfl
    | some o' => exact absurd (Nat.lt_of_lt_of_le (Heap.lt_size z) ge) (Nat.lt_irrefl _)
  refine ⟨c, o, u, hc, ho, hd, r, I.freeC x c hc, fun hb => ?_, ?_⟩
  · rcases List.mem_cons.mp (I.stkSub c hb) with e | hm
    · exact I.cne x c hc e
    · obtain ⟨_, o', ho', _⟩ := I.ok.funs.mem hm
      rw [n0] at ho'
      cases ho'
  · cases z : X.base.get? c with
    | none => rfl
    | some o' =>
      have := (I.ok.bs c o' z).1
      rw [n0] at this
      cases this
end
section
variable {X : Cx} {k : Nat} {f : Addr} {fd : FuncData} {ps : List Str} {sp : Sp} {x : Str} {p pos : Pos} {e : Expr} {es : List Expr} {t : TA}
structure LentOk (X : Cx) (s : Shared) (H : Hp) (ls : List (Addr × Obj)) : Prop where
  nd : (ls.map (·.1)).Nodup
  ok : ∀ p ∈ ls, s.heap.get? p.1 = some p.2 ∧ H p.1 = none ∧ p.1 ∉ frs X.stack ∧ X.base.get? p.1 = none
theorem run_fnL {pins : List (Addr × Obj)} {σ : L2.St} {H : Hp} {s : Shared} {Q : VK} {us : List Value} {vs : List V} {ls : List (Addr × Obj)} (F : FnOk X.prog X.w X.K X.mg X.base (L2N.CX X.prog X.w) k f fd ps sp) (hr : Room k X.A) (hb : Binds X.K fd ps [])
    (I : Inv X pins σ H s) (L : LentOk X s H ls) (r : Vals vs us) (h : sp vs (addL H ls) (fun v H' => (∀ q ∈ ls, H' q.1 = some (CelO q.1 q.2)) ∧ Q v (delL H' (ls.map (·.1)))) (fun _ _ _ => False)) : wpAny (model X.prog X.w) X.A (call (.ref f) us) (EP X pins σ Q) X.xe s := by
  have hl : us.length = ps.length := by rw [← r.length]; exact F.len _ _ _ _ h
  refine wpAny_call (codeAny_mono (F.run X.A X.stack s (addL H ls) ⟨us, []⟩ us vs _ _ hr (env0_lend I.env0 L.ok) (by have := hb s us I.kIn (by rw [List.append_nil]; exact hl); rw [List.append_nil] at this; exact this) r h) fun r s' hq => ?_)
  cases r with
  | error e => exact (cxN_no hq).elim
  | ok fl =>
    cases fl with
    | ret u =>
      obtain ⟨v, H', os, bare, un, hok, rv, qc, q⟩ := hq
      have hc' : ∀ q ∈ ls, s'.heap.get? q.1 = some q.2 := fun q hq => (hok q.1 _ (qc q hq)).1
      refine ⟨v, delL H' (ls.map (·.1)), I.call' (ch := []) os (un_unlend un L.nd fun q hq => ⟨(L.ok q hq).1, (L.ok q hq).2.1, qc q hq, hc' q hq⟩) (hok_del hok fun c hc => ?_) bare (fun b z => absurd z (by simp)), rv, q⟩
      obtain ⟨q, hq, rfl⟩ := List.mem_map.mp hc
      exact ⟨q.2, qc q hq⟩
    | next => exact False.elim hq
    | brk => exact False.elim hq
    | cont => exact False.elim hq
end
/-! ### a lambda with a closure, run -/
def lamVB (sc : Scope) (ps fv : List Str) : Bool := decide (sc.kind = .function) && (!sc.isCoroutine && (!sc.isGenerator && (sc.names.all (fun y => !decide (y.2 = .cell) && (!decide (y.2 = .local) || ps.contains y.1) && (!decide (y.2 = .free) || fv.contains y.1)) &&
  (ps.all (fun y => decide (sc.names.lookup y = some .local)) && (fv.all (fun y => decide (sc.names.lookup y = some .free)) && decide ((ps ++ fv).Nodup))))))
structure LamVS (sc : Scope) (ps fv : List Str) : Prop where
  kind : sc.kind = .function
  co : sc.isCoroutine = false
  gen : sc.isGenerator = false
  nocell : ∀ y ∈ sc.names, y.2 ≠ .cell
  free : ∀ y ∈ sc.names, y.2 = .free → y.1 ∈ fv
  par : ∀ y ∈ ps, sc.names.lookup y = some .local
  fre : ∀ y ∈ fv, sc.names.lookup y = some .free
  nd : (ps ++ fv).Nodup
theorem lamVS_by {sc : Scope} {ps fv : List Str} (h : lamVB sc ps fv = true) : LamVS sc ps fv := by
  unfold lamVB at h
  simp only [Bool.and_eq_true, Bool.or_eq_true, Bool.not_eq_true', decide_eq_true_eq, decide_eq_false_iff_not, List.all_eq_true, List.contains_iff_mem] at h
  obtain ⟨h1, h2, h3, h4, h5, h6, h7⟩ := h
  exact ⟨h1, h2, h3, fun y hy => (h4 y hy).1.1, fun y hy e => (h4 y hy).2.elim (fun n => absurd e n) id, h5, h6, h7⟩
abbrev lamVE (L : LamW) (cl : List (Str × Addr)) (n f c' : Addr) : Env := PySem.W.envX L.q L.scope n f (.ref c') cl
def lamV (P : Program) (w : World) (K : PySem.W.Frag) (mg : Str → Option Value) (base : Heap) (N : List Str) (L : LamW) (cl : List (Str × Addr)) (f c' : Addr) (A : Around) (outer : List Env) (s : Shared) (H : Hp) : Cx where
  prog := P
  w := w
  K := K
  mg := mg
  base := base
  A := A.deeper (lamVE L cl s.heap.objs.size f c')
  N := N
  s_0 := s
  H_0 := H
  env := lamVE L cl s.heap.objs.size f c'
  outer := outer
  stack := lamVE L cl s.heap.objs.size f c' :: outer
  ex := []
  fn := fun _ => false
  calm := true
  pn := []
  xe := fun e s' => wpAny (model P w) (A.deeper (lamVE L cl s.heap.objs.size f c')) (leaving (lamVE L cl s.heap.objs.size f c') e) (fun _ s'' => L2N.CX P w outer H s (fun _ _ _ => False) e s'') (fun e' s'' => L2N.CX P w outer H s (fun _ _ _ => False) e' s'') s'
/-- a captured name: its cell, its value -/
abbrev Cap := Str × Addr × Obj × V
theorem run_lamV {P : Program} {w : World} {K : PySem.W.Frag} {mg : Str → Option Value} {base : Heap} {k : Nat} {f c' : Addr} {L : LamW} {cl : List (Str × Addr)} {fc : List Cap} {ps : List Str} {A : Around} {outer : List Env} {s : Shared} {H : Hp} {us : List Value} {vs : List V} {Q : VK} {E : XK}
    (hL : H f = some (LamOC f L cl c')) (hC : H c' = some (CodeO c' L.q)) (S : LamVS L.scope ps (fc.map (·.1))) (hcl : ∀ q ∈ fc, cl.lookup q.1 = some q.2.1) (hall : ∀ y c, cl.lookup y = some c → y ∈ fc.map (·.1)) (nd : (fc.map fun q => q.2.1).Nodup)
    (hce : ∀ q ∈ fc, H q.2.1 = some (CelO q.2.1 q.2.2.1) ∧ ∃ u, q.2.2.1.data = .cell (some u) ∧ RelV q.2.2.2 u) (hr : Room (k + 1) A) (e0 : Env0 P w K mg base A outer s H)
    (hb : ∀ (pm ctv : Value) (us : List Value), us.length = ps.length → bindArgs (PySem.W.kla_fn "<lambda>" L.q L.params L.body L.scope cl pm (.ref c') ctv) ⟨us, []⟩ = pure (ps.zip us)) (r : Vals vs us) (hl : vs.length = ps.length)
    (hbody : Room k (A.deeper (lamVE L cl s.heap.objs.size f c')) → tSem (lamV P w K mg base (ps ++ fc.map (·.1)) L cl f c' A outer s (delL H (fc.map fun q => q.2.1))) L.body (vs.map some ++ fc.map fun q => some q.2.2.2) (delL H (fc.map fun q => q.2.1)) fun v H' => (∀ q ∈ fc, H' q.2.1 = none) → Q v (addL H' (fc.map fun q => (q.2.1, q.2.2.1)))) :
    codeAny (model P w) A (.call (.ref f) ⟨us, []⟩) (CR (L2N.CX P w) outer P w H s Q E) s := by
  obtain ⟨⟨pm, ctv, of1⟩, _, _⟩ := e0.hok f _ hL
  obtain ⟨⟨oc, ws, t, hoc, hdc, hvc⟩, _, _⟩ := e0.hok c' _ hC
  have lim : s.heap.NoLimit := e0.mod.nolimit.keeps fun b o e => (e0.bs b o e).1
  have hus : us.length = ps.length := by rw [← r.length]; exact hl
  have hcells : ∀ c ∈ fc.map (fun q => q.2.1), ∃ o, H c = some (CelO c o) := fun c hc => by
    obtain ⟨q, hq, rfl⟩ := List.mem_map.mp hc
    exact ⟨_, (hce q hq).1⟩
  have e1 := env0_del e0 hcells
  have ndP : ps.Nodup := (List.nodup_append.mp S.nd).1
  have at_ : ∀ y c, cl.lookup y = some c → ∃ q ∈ fc, q.1 = y ∧ q.2.1 = c := fun y c e => by
    obtain ⟨q, hq, rfl⟩ := List.mem_map.mp (hall y c e)
    have z := hcl q hq
    rw [e] at z
    cases z
    exact ⟨q, hq, rfl, rfl⟩
  refine PySem.W.kla_callFunE hr.depth of1 rfl S.co S.gen rfl ⟨c', oc, ws, t, rfl, hoc, hdc, hvc⟩ ?_
  rw [hb pm ctv us hus]
  refine wpAny_pure (wpAny_newFunctionEnv S.nocell (fun y hy => S.par y.1 (List.of_mem_zip (show (y.1, y.2) ∈ ps.zip us from hy)).1) (fun h₁ hns hsb => ⟨lim.fresh _ hsb, ?_⟩) S.kind)
  show codeAny _ _ (.expr L.body (lamVE L cl s.heap.objs.size f c')) _ _
  have kp : ∀ b o, s.heap.get? b = some o → h₁.get? b = some o := fun b o e => hsb.extBut b o (Nat.ne_of_lt (Heap.lt_size e)) (Heap.get?_push_of_some _ e)
  have hcel : ∀ q ∈ fc, s.heap.get? q.2.1 = some q.2.2.1 := fun q hq => (e0.hok _ _ (hce q hq).1).1
  have J : Inv (lamV P w K mg base (ps ++ fc.map (·.1)) L cl f c' A outer s (delL H (fc.map fun q => q.2.1))) [] (vs.map some ++ fc.map fun q => some q.2.2.2) (delL H (fc.map fun q => q.2.1)) { s with heap := h₁, toks := s.toks + (ps.zip us).length } := by
    have noA : ∀ b : Addr, b ∉ (lamV P w K mg base (ps ++ fc.map (·.1)) L cl f c' A outer s (delL H (fc.map fun q => q.2.1))).ex := fun b z => absurd (show b ∈ ([] : List Addr) from z) (by simp)
    refine ⟨⟨e1.mod, S.kind, rfl, rfl, Nat.le_refl _, fun y z c h1 h2 => ?_, fun y hy => ?_, fun y c z _ => (by have z : false = true := z; cases z), fun _ => hr.hd, Around.frames_deeper e1.frames, .inr ⟨rfl, rfl⟩, fun b z => absurd z (noA b), e1.bs, e1.bsz, fun b _ _ => noA b, fun b z => absurd z (noA b), e1.funs, e1.frf⟩,
      rfl, e1.bare, Un.kept kp, ⟨_, hns, fun i y v h1 h2 h3 => ?_⟩, fun y c h => ?_, e1.hok.fresh (Nat.le_refl _), fun y c h => ?_, fun q hq => absurd (show q ∈ ([] : List (Addr × Obj)) ++ [] from hq) (by simp), e1.hok.kept kp, ?_⟩
    · obtain ⟨q, hq, rfl, e2⟩ := at_ y c h1
      obtain ⟨q', hq', rfl, e3⟩ := at_ z c h2
      have key : ∀ {l : List Cap}, (l.map fun q => q.2.1).Nodup → q ∈ l → q' ∈ l → q = q' := fun {l} n m1 m2 => by
        induction l with
        | nil => cases m1
        | cons a l ih =>
          obtain ⟨n1, n2⟩ := List.nodup_cons.mp (show (a.2.1 :: l.map fun q => q.2.1).Nodup from n)
          rcases List.mem_cons.mp m1 with e | m1 <;> rcases List.mem_cons.mp m2 with e' | m2
          · rw [e, e']
          · exact (n1 (List.mem_map.mpr ⟨q', m2, by rw [e3, ← e2, e]⟩)).elim
          · exact (n1 (List.mem_map.mpr ⟨q, m1, by rw [e2, ← e3, e']⟩)).elim
          · exact ih n2 m1 m2
      rw [key nd hq hq']
    · have hy : L.scope.names.lookup y = some .cell ∨ L.scope.names.lookup y = some .free := hy
      rcases hy with hy | hy
      · exact absurd rfl (S.nocell _ (PySem.mem_of_lookup hy))
      · obtain ⟨q, hq, e⟩ := List.mem_map.mp (S.free _ (PySem.mem_of_lookup hy) rfl)
        exact ⟨q.2.1, by rw [← show q.1 = y from e]; exact hcl q hq⟩
    · have h1 : (ps ++ fc.map (·.1))[i]? = some y := h1
      by_cases hi : i < ps.length
      · rw [List.getElem?_append_left hi] at h1
        rw [List.getElem?_append_left (by rw [List.length_map]; omega), List.getElem?_map] at h2
        obtain ⟨v0, hv0⟩ : ∃ v0, vs[i]? = some v0 := ⟨_, List.getElem?_eq_getElem (by omega)⟩
        rw [hv0] at h2
        cases h2
        obtain ⟨u, hu, rv⟩ := r.get hv0
        refine ⟨u, rv, .inl ⟨S.par y (List.mem_of_getElem? h1), ?_⟩⟩
        have hz : (ps.zip us)[i]? = some (y, u) := by
          rw [List.getElem?_zip_eq_some]
          exact ⟨h1, hu⟩
        refine lookup_nd ?_ (List.mem_reverse.mpr (List.mem_of_getElem? hz))
        rw [List.map_reverse, List.map_fst_zip (by omega)]
        exact (List.reverse_perm ps).nodup_iff.mpr ndP
      · rw [List.getElem?_append_right (by omega)] at h1
        rw [List.getElem?_append_right (by rw [List.length_map]; omega), List.length_map, hl] at h2
        rw [List.getElem?_map] at h1 h2
        cases e : fc[i - ps.length]? with
        | none => rw [e] at h1; cases h1
        | some q =>
          rw [e] at h1 h2
          cases h1
          cases h2
          have hq := List.mem_of_getElem? e
          obtain ⟨_, u, hd, rv⟩ := hce q hq
          exact ⟨u, rv, .inr ⟨.inr (S.fre _ (List.mem_map.mpr ⟨q, hq, rfl⟩)), q.2.1, hcl q hq, q.2.2.1, kp _ _ (hcel q hq), hd⟩⟩
    · obtain ⟨q, hq, rfl, rfl⟩ := at_ y c h
      obtain ⟨_, u, hd, _⟩ := hce q hq
      exact ⟨some u, q.2.2.1, kp _ _ (hcel q hq), hd⟩
    · obtain ⟨q, hq, rfl, rfl⟩ := at_ y c h
      exact delL_in (List.mem_map.mpr ⟨q, hq, rfl⟩)
    · show (vs.map some ++ fc.map fun q => some q.2.2.2).length = (ps ++ fc.map (·.1)).length
      rw [List.length_append, List.length_append, List.length_map, List.length_map, List.length_map, hl]
  refine PySem.W.kla_codeExpr (wpAny_mono ((hbody (hr.deeper _)).run [] _ J) (fun v s' ⟨w', H', J', rv, q⟩ => ?_) fun e s' hq => ?_)
  · have hn : ∀ q ∈ fc, H' q.2.1 = none := fun q hq => J'.freeC q.1 q.2.1 (hcl q hq)
    have hk : ∀ q ∈ fc, s'.heap.get? q.2.1 = some q.2.2.1 := fun q hq => J'.base.keep q.2.1 _ (hcel q hq) (delL_in (List.mem_map.mpr ⟨q, hq, rfl⟩)) (fun hb => by
      have := e0.frf _ (show q.2.1 ∈ frs outer from hb)
      rw [(hce q hq).1] at this
      cases this) (fun z => by cases z)
    have em : (fc.map fun q => (q.2.1, q.2.2.1)).map (·.1) = fc.map fun q => q.2.1 := by rw [List.map_map] <;> rfl
    refine ⟨w', _, J'.os, J'.bare, un_relend (by rw [em]; exact J'.base) (fun p hp => ?_), hok_add J'.hok (fun p hp => ?_) (fun p hp => ?_), rv, q hn⟩
    · obtain ⟨q, hq, rfl⟩ := List.mem_map.mp hp
      exact (hce q hq).1
    · obtain ⟨q, hq, rfl⟩ := List.mem_map.mp hp
      exact hk q hq
    · obtain ⟨q, hq, rfl⟩ := List.mem_map.mp hp
      exact hn q hq
  · exact wpAny_mono hq (fun _ s'' z => (cxN_no z).elim) fun e' s'' z => (cxN_no z).elim
end Dl

set_option Elab.async false
set_option linter.all false
set_option maxRecDepth 100000
set_option maxHeartbeats 2000000
/-! D62: lambdas with a closure over data: made, lent their cells, called. -/
namespace Dl
open PySem PySem.Spec PyProof.Rows L2 LamX
theorem permA {C Oc : Own} {a b : Addr × OV} : (C ++ a :: b :: Oc).Perm ((C ++ a :: Oc) ++ [b]) := by
  rw [List.append_assoc]
  exact List.Perm.append_left _ (List.Perm.cons _ (List.perm_append_singleton _ _).symm)
theorem permB {C Oc : Own} {a b c : Addr × OV} : (C ++ a :: b :: c :: Oc).Perm ((C ++ a :: Oc) ++ [b, c]) := by
  rw [List.append_assoc]
  exact List.Perm.append_left _ (List.Perm.cons _ (List.perm_append_comm (l₁ := [b, c]) (l₂ := Oc)))
theorem permC {C : Own} {a b c d : Addr × OV} : (C ++ a :: b :: c :: [d]).Perm ((d :: (C ++ [a, b])) ++ [c]) := by
  have h1 : (C ++ a :: b :: c :: [d]) = C ++ [a, b] ++ [c, d] := by simp
  rw [h1]
  have h2 : (d :: (C ++ [a, b])) ++ [c] = d :: (C ++ [a, b] ++ [c]) := rfl
  rw [h2]
  refine List.Perm.trans ?_ (List.perm_append_singleton d _)
  simp
abbrev NDs := List (Str × D)
/-- the lent cells: the captured names with their values, the cells' addresses and objects -/
abbrev cels (xs : NDs) (ca : Str → Addr) (co : Str → Obj) : Own := xs.map fun p => (ca p.1, OV.cel (co p.1) p.2)
abbrev lnt (xs : NDs) (ca : Str → Addr) (co : Str → Obj) : List (Addr × Obj) := xs.map fun p => (ca p.1, co p.1)
abbrev cadr (xs : NDs) (ca : Str → Addr) : List Addr := xs.map fun p => ca p.1
theorem lnt_cadr (xs : NDs) (ca : Str → Addr) (co : Str → Obj) : (lnt xs ca co).map (·.1) = cadr xs ca := by
  rw [List.map_map] <;> rfl
theorem cels_keys (xs : NDs) (ca : Str → Addr) (co : Str → Obj) : keys (cels xs ca co) = cadr xs ca := by
  unfold keys
  rw [List.map_map] <;> rfl
section
variable {K : PySem.W.Frag} {B : Bs} {G G' : Sl} {O : Own} {F H F' H' : Hp} {σ σ' : L2.St} {xs : NDs} {ca : Str → Addr} {co : Str → Obj}
theorem Sat.lend (S : Sat K B G O F σ H) (nd : (cadr xs ca).Nodup) (hn : ∀ p ∈ xs, H (ca p.1) = none) (hd : ∀ p ∈ xs, ∃ u v, (co p.1).data = .cell (some u) ∧ RelV v u ∧ Rep K F v p.2) : Sat K B G (cels xs ca co ++ O) F σ (addL H (lnt xs ca co)) := by
  have out : ∀ b o, H b = some o → b ∉ (lnt xs ca co).map (·.1) := fun b o q hm => by
    rw [lnt_cadr] at hm
    obtain ⟨p, hp, rfl⟩ := List.mem_map.mp hm
    rw [hn p hp] at q
    cases q
  refine ⟨S.len, S.slot, fun b o e => ?_, ?_, fun p hp => ?_, S.bF, fun a o e1 e2 e3 => ?_⟩
  · have := S.ex b o e
    rw [addL_out (out b o this)]
    exact this
  · show (keys (cels xs ca co ++ O)).Nodup
    rw [keys_app, cels_keys]
    refine List.nodup_append.mpr ⟨nd, S.nd, fun a ha b hb e => ?_⟩
    subst e
    obtain ⟨p, hp, rfl⟩ := List.mem_map.mp ha
    obtain ⟨ov, q⟩ := keys_mem hb
    obtain ⟨o, z⟩ := S.lt q
    rw [hn p hp] at z
    cases z
  · rcases List.mem_append.mp hp with hp | hp
    · obtain ⟨q, hq, rfl⟩ := List.mem_map.mp hp
      refine ⟨S.ex.free (hn q hq), ?_, hd q hq⟩
      exact addL_in (p := (ca q.1, co q.1)) (by rw [lnt_cadr]; exact nd) (List.mem_map.mpr ⟨q, hq, rfl⟩)
    · obtain ⟨o, z⟩ := S.lt hp
      exact ⟨(S.own p hp).1, (S.own p hp).2.mono (Same.refl _) (addL_out (out p.1 o z))⟩
  · obtain ⟨h1, h2, h3⟩ := S.bH a o e1 e2 e3
    have no := out a o h1
    refine ⟨by rw [addL_out no]; exact h1, h2, fun hm => ?_⟩
    rw [keys_app, cels_keys] at hm
    rw [lnt_cadr] at no
    exact (List.mem_append.mp hm).elim no h3
theorem Sat.unlend (S : Sat K B G (cels xs ca co ++ O) F σ H) : Sat K B G O F σ (delL H (cadr xs ca)) := by
  have nd := S.nd
  rw [keys_app, cels_keys] at nd
  obtain ⟨n1, n2, n3⟩ := List.nodup_append.mp nd
  refine ⟨S.len, S.slot, fun b o e => ?_, n2, fun p hp => ?_, S.bF, fun a o e1 e2 e3 => ?_⟩
  · rw [delL_out (fun hm => ?_)]
    · exact S.ex b o e
    · obtain ⟨q, hq, rfl⟩ := List.mem_map.mp hm
      have := (S.own (ca q.1, .cel (co q.1) q.2) (List.mem_append_left _ (List.mem_map.mpr ⟨q, hq, rfl⟩))).1
      rw [show F (ca q.1) = none from this] at e
      cases e
  · have := S.own p (List.mem_append_right _ hp)
    exact ⟨this.1, this.2.mono (Same.refl _) (delL_out fun hm => n3 _ hm _ (mem_keys hp) rfl)⟩
  · obtain ⟨h1, h2, h3⟩ := S.bH a o e1 e2 e3
    rw [keys_app, cels_keys] at h3
    exact ⟨by rw [delL_out fun hm => h3 (List.mem_append_left _ hm)]; exact h1, h2, fun hm => h3 (List.mem_append_right _ hm)⟩
theorem Sat.relend (S : Sat K B G (cels xs ca co ++ O) F σ H) (S' : Sat K ⟨F, delL H (cadr xs ca), keys O⟩ G' O F' σ' H') (hn : ∀ p ∈ xs, H' (ca p.1) = none) : Sat K B G' (cels xs ca co ++ O) F' σ' (addL H' (lnt xs ca co)) := by
  have nd := S.nd
  rw [keys_app, cels_keys] at nd
  obtain ⟨n1, n2, n3⟩ := List.nodup_append.mp nd
  have out : ∀ b o, H' b = some o → b ∉ (lnt xs ca co).map (·.1) := fun b o q hm => by
    rw [lnt_cadr] at hm
    obtain ⟨p, hp, rfl⟩ := List.mem_map.mp hm
    rw [hn p hp] at q
    cases q
  refine ⟨S'.len, S'.slot, fun b o e => ?_, S.nd, fun p hp => ?_, S.bF.trans S'.bF, fun a o e1 e2 e3 => ?_⟩
  · have := S'.ex b o e
    rw [addL_out (out b o this)]
    exact this
  · rcases List.mem_append.mp hp with hm | hm
    · obtain ⟨q, hq, rfl⟩ := List.mem_map.mp hm
      obtain ⟨_, _, u, v, h3, h4, h5⟩ := S.own _ hp
      exact ⟨S'.ex.free (hn q hq), addL_in (p := (ca q.1, co q.1)) (by rw [lnt_cadr]; exact n1) (List.mem_map.mpr ⟨q, hq, rfl⟩), u, v, h3, h4, h5.mono S'.bF⟩
    · obtain ⟨o, z⟩ := S'.lt hm
      exact ⟨(S'.own p hm).1, (S'.own p hm).2.mono (Same.refl _) (addL_out (out p.1 o z))⟩
  · obtain ⟨h1, h2, h3⟩ := S.bH a o e1 e2 e3
    have h3' := h3
    rw [keys_app, cels_keys] at h3'
    obtain ⟨g1, g2, g3⟩ := S'.bH a o (by show delL H (cadr xs ca) a = some o; rw [delL_out fun hm => h3' (List.mem_append_left _ hm)]; exact h1) h2 (fun hm => h3' (List.mem_append_right _ hm))
    exact ⟨by rw [addL_out (out a o g1)]; exact g1, g2, h3⟩
end
/-- a function's value: what a call of it by place promises -/
def VFn (M : Mach) (k : Nat) (f : Addr) (sp : DSp) : Prop := ∀ (A : Around) (outer : List Env) (s : Shared) (H : Hp) (us : List Value) (vs : List V) (Q : VK) (E : XK), Room k A → Env0 M.P M.w M.K M.mg M.base A outer s H → Vals vs us → liftSp M.K sp vs H Q E →
  codeAny (model M.P M.w) A (.call (.ref f) ⟨us, []⟩) (CR (L2N.CX M.P M.w) outer M.P M.w H s Q E) s
theorem VFn.mono {M : Mach} {j k : Nat} {f : Addr} {sp : DSp} (h : VFn M j f sp) (l : j ≤ k) : VFn M k f sp := fun A outer s H us vs Q E hr => h A outer s H us vs Q E (hr.mono l)
/-- .. that changes nothing of what it is lent -/
def spFun (O0 : Own) (dom : List D → D → Prop) : DSp := fun ds O Φ _ => ∃ v, dom ds v ∧ O = O0 ∧ Φ v O0
theorem liftSp_mono {K : PySem.W.Frag} {sp : DSp} {vs : List V} {H : Hp} {Q : VK} {E E' : XK} (h : liftSp K sp vs H Q E) (k : ∀ cls dd H', E cls dd H' → E' cls dd H') : liftSp K sp vs H Q E' := by
  obtain ⟨F, O, ds, Φ, Ψ, S, r, p, q1, q2⟩ := h
  exact ⟨F, O, ds, Φ, Ψ, S, r, p, q1, fun cls dd F' H' x O' G σ S' xr w => k _ _ _ (q2 cls dd F' H' x O' G σ S' xr w)⟩
/-- a lambda at f, its closure cl -/
theorem caps_of {K : PySem.W.Frag} {B : Bs} {G : Sl} {F H : Hp} {σ : L2.St} {ca : Str → Addr} {co : Str → Obj} {O : Own} : ∀ {xs : NDs}, (∀ p ∈ cels xs ca co, F p.1 = none ∧ ORep K F H p.1 p.2) →
    ∃ fc : List Cap, fc.map (·.1) = xs.map (·.1) ∧ (fc.map fun q => q.2.1) = cadr xs ca ∧ (fc.map fun q => (q.2.1, q.2.2.1)) = lnt xs ca co ∧ Reps K F (fc.map fun q => q.2.2.2) (xs.map (·.2)) ∧ (∀ q ∈ fc, q.2.1 = ca q.1) ∧ ∀ q ∈ fc, H q.2.1 = some (CelO q.2.1 q.2.2.1) ∧ ∃ u, q.2.2.1.data = .cell (some u) ∧ RelV q.2.2.2 u
  | [], _ => ⟨[], rfl, rfl, rfl, .nil, fun q h => (by cases h), fun q h => (by cases h)⟩
  | x :: xs, h => by
    obtain ⟨fc, h1, h2, h3, h4, h5, h6⟩ := caps_of (O := O) (B := B) (G := G) (σ := σ) (xs := xs) fun p hp => h p (List.mem_cons_of_mem _ hp)
    obtain ⟨_, z1, u, v, z2, z3, z4⟩ := h (ca x.1, .cel (co x.1) x.2) List.mem_cons_self
    refine ⟨(x.1, ca x.1, co x.1, v) :: fc, by rw [List.map_cons, List.map_cons, h1], by rw [List.map_cons, h2] <;> rfl, by rw [List.map_cons, h3] <;> rfl, .cons z4 h4, fun q hq => ?_, fun q hq => ?_⟩
    · rcases List.mem_cons.mp hq with rfl | hq
      · rfl
      · exact h5 q hq
    · rcases List.mem_cons.mp hq with rfl | hq
      · exact ⟨z1, u, z2, z3⟩
      · exact h6 q hq
theorem vfn_lam {M : Mach} {k : Nat} {f : Addr} {L : LamW} {cl : List (Str × Addr)} {ps gl : List Str} (ns : List Str) (xs : NDs) {ca : Str → Addr} {co : Str → Obj} {O0 Or : Own} {dom : List D → D → Prop} (hns : xs.map (·.1) = ns) (hS : lamVB L.scope ps ns = true) (hsc : lamSc L.scope (ps ++ ns) gl = true)
    (hb : ∀ (c' : Addr) (pm ctv : Value) (us : List Value), us.length = ps.length → bindArgs (PySem.W.kla_fn "<lambda>" L.q L.params L.body L.scope cl pm (.ref c') ctv) ⟨us, []⟩ = pure (ps.zip us)) (hcl : ∀ p ∈ xs, cl.lookup p.1 = some (ca p.1)) (hall : ∀ y c, cl.lookup y = some c → y ∈ ns)
    (hp : O0.Perm (cels xs ca co ++ Or)) (hm : (f, OV.lamc L cl) ∈ Or) (hlen : ∀ ds v, dom ds v → ds.length = ps.length)
    (hbody : ∀ (X' : Cx) (B' : Bs) (ds : List D) (v : D), dom ds v → LamB M X' B' (ps ++ ns) (ps ++ ns) gl L.scope k (fun _ _ _ => False) → PEv X' B' (ds.map some ++ xs.map fun p => some p.2) Or L.body v) :
    VFn M (k + 1) f (spFun O0 dom) := by
  subst hns
  intro A outer s H us vs Q E hr e0 r h
  obtain ⟨F, O, ds, Φ, Ψ, S, rs, ⟨v, hd, rfl, q⟩, k1, k2⟩ := h
  have S1 : Sat M.K ⟨F, H, keys O⟩ [] (cels xs ca co ++ Or) F [] H := S.perm hp
  have VS := lamVS_by hS
  unfold lamSc at hsc
  rw [Bool.and_eq_true, List.all_eq_true, List.all_eq_true] at hsc
  obtain ⟨fc, c1, c2, c3, c4, c5, c6⟩ := caps_of (K := M.K) (B := ⟨F, H, keys O⟩) (G := []) (σ := []) (O := Or) (xs := xs) (ca := ca) (co := co) (F := F) (H := H) fun p hp => S1.own p (List.mem_append_left _ hp)
  obtain ⟨_, c', hc1, hc2⟩ := S1.own _ (List.mem_append_right _ hm)
  have nd := S1.nd
  rw [keys_app, cels_keys] at nd
  have n1 := (List.nodup_append.mp nd).1
  have hvl : vs.length = ps.length := by rw [rs.length]; exact hlen ds v hd
  refine run_lamV (fc := fc) (ps := ps) hc1 (S1.ex _ _ hc2) (by rw [c1]; exact VS) (fun q hq => ?_) (fun y c e => by rw [c1]; exact hall y c e) (by rw [c2]; exact n1) c6 hr e0 (hb c') r hvl fun hr' => ?_
  · have z : q.1 ∈ xs.map (·.1) := by rw [← c1]; exact List.mem_map.mpr ⟨q, hq, rfl⟩
    obtain ⟨p, hp', e⟩ := List.mem_map.mp z
    rw [c5 q hq, ← e]
    exact hcl p hp'
  · rw [c2, c3, c1]
    have lb : LamB M (lamV M.P M.w M.K M.mg M.base (ps ++ xs.map (·.1)) L cl f c' A outer s (delL H (cadr xs ca))) ⟨F, delL H (cadr xs ca), keys Or⟩ (ps ++ xs.map (·.1)) (ps ++ xs.map (·.1)) gl L.scope k (fun _ _ _ => False) := by
      refine ⟨⟨rfl, rfl, rfl, VS.kind, VS.nd, rfl, passes_of rfl, hr'.units, fun y hy => vis_of (hsc.1 y (contains_mem hy)), fun y hy => (by cases hy), fun y hy => gl_of (hsc.2 y (contains_mem hy))⟩, hr', takes_no⟩
    have S2 := S1.unlend
    have nd2 : (keys Or).Nodup := (List.nodup_append.mp nd).2.1
    have rsl : Reps M.K F (vs ++ fc.map fun q => q.2.2.2) (ds ++ xs.map (·.2)) := rs.append c4
    have eG : (ds.map some ++ xs.map fun p => some p.2) = (ds ++ xs.map (·.2)).map some := by rw [List.map_append, List.map_map] <;> rfl
    have eσ : (vs.map some ++ fc.map fun q => some q.2.2.2) = (vs ++ fc.map fun q => q.2.2.2).map some := by rw [List.map_append, List.map_map] <;> rfl
    have S3 : Sat M.K ⟨F, delL H (cadr xs ca), keys Or⟩ (ds.map some ++ xs.map fun p => some p.2) Or F (vs.map some ++ fc.map fun q => some q.2.2.2) (delL H (cadr xs ca)) := by
      have S2' : Sat M.K ⟨F, H, keys O⟩ [] (Or ++ []) F [] (delL H (cadr xs ca)) := by rw [List.append_nil]; exact S2
      refine S2'.part ?_ fun i d e => ?_
      · rw [eG, eσ, List.length_map, List.length_map, rsl.length]
      · rw [eG, List.getElem?_map] at e
        rw [eσ]
        cases z : (ds ++ xs.map (·.2))[i]? with
        | none => rw [z] at e; cases e
        | some d' =>
          rw [z] at e
          cases e
          obtain ⟨w, g1, g2⟩ := rsl.get z
          exact ⟨w, by rw [List.getElem?_map, g1]; rfl, g2⟩
    refine hbody _ _ ds v hd lb F _ _ S3 _ fun v' F' H' d' O' S' e' r' ⟨e1, e2⟩ => fun hn => ?_
    subst e1 e2
    have hn' : ∀ p ∈ xs, H' (ca p.1) = none := fun p hp' => by
      have z : ca p.1 ∈ fc.map fun q => q.2.1 := by rw [c2]; exact List.mem_map.mpr ⟨p, hp', rfl⟩
      obtain ⟨q, hq, e⟩ := List.mem_map.mp z
      rw [← e]
      exact hn q hq
    exact k1 v' F' _ d' O _ _ ((S1.relend S' hn').perm hp.symm) r' q
section
variable {M : Mach} {X : Cx} {N : List Str} {sc : Scope} {vb lb gb : Str → Bool} {B : Bs} {G : Sl} {O O0 Ob : Own} {e a b : Expr} {es : List Expr} {pos p : Pos} {x : Str} {k i : Nat} {c P : Addr} {params : Arguments} {body : Expr} {scope : Scope} {L : LamW} {cl : List (Str × Addr)} {f : Addr} {dom : List D → D → Prop} {ds : List D} {v : D}
theorem pe_callV {sp : Sp} {E : L2.St → XK} {t : TA} (hi : X.N[i]? = some x) (hv : Vis X.env.scope x) (hd : (x == ("__debug__" : Str)) = false) (hcd : (x == ("__classdict__" : Str)) = false)
    (F : ∀ (A : Around) (outer : List Env) (s : Shared) (H : Hp) (us : List Value) (vs : List V) (Q : VK) (E : XK), Room k A → Env0 X.prog X.w X.K X.mg X.base A outer s H → Vals vs us → sp vs H Q E → codeAny (model X.prog X.w) A (.call (.ref f) ⟨us, []⟩) (CR (L2N.CX X.prog X.w) outer X.prog X.w H s Q E) s)
    (hr : Room k X.A) (hx : ∀ σ, PassesAt (L2N.CX X.prog X.w) X σ (E σ)) (ha : PA X (e :: es) t) (he : starEach (e :: es) X.env = (false, eval e X.env) :: starEach es X.env) (hpl : (backTo pos (starEach es X.env)).any (·.1) = false) :
    PE X (.Call (.Name x p) (e :: es) [] pos) (fun σ H Q => (∃ c', H f = some (LamOC f L cl c')) ∧ σ[i]? = some (some (.ref f)) ∧ t σ H fun vs H1 => (∃ c', H1 f = some (LamOC f L cl c')) ∧ sp vs H1 Q (E σ)) := by
  refine ⟨fun pins s σ H Q I ⟨⟨c0, h0⟩, hs, h⟩ => ?_⟩
  refine wpAny_Call_Name_kw (thn ((pe_var (pos := p) (i := i) hi hv hd hcd).run pins s σ H (fun v H1 => v = .ref f ∧ H1 = H) I ⟨.ref f, hs, rfl, rfl⟩) fun u s1 ⟨v, H1, I1, r1, ev, eH⟩ => ?_)
  subst ev
  rw [eH] at I1
  obtain rfl : u = Value.ref f := r1
  obtain ⟨⟨pm0, ctv0, of0⟩, _, _⟩ := I1.hok f _ h0
  refine PySem.W.callWith_F ⟨_, _, _, _, of0⟩ (thn (ha.run pos pins s1 σ H _ I1 h) fun us s2 ⟨vs, H2, I2, r2, ⟨c', h1⟩, z⟩ => ?_) he hpl
  obtain ⟨⟨pm, ctv, of1⟩, _, _⟩ := I2.hok f _ h1
  refine ⟨⟨_, _, _, _, of1⟩, ?_⟩
  refine wpAny_call (codeAny_mono (F X.A X.stack s2 H2 us vs Q (E σ) hr I2.env0 r2 z) fun r s' hq => ?_)
  cases r with
  | error e => exact hx σ pins H2 s2 e s' I2 hq
  | ok fl => cases fl with
    | ret u => exact I2.after hq
    | next => exact hq.elim
    | brk => exact hq.elim
    | cont => exact hq.elim
/-- x(..), x a name that holds a lambda, what it gives known -/
theorem pv_callV (C : Cxt M X N sc vb lb gb) (hx : VarAt N G x (.obj f)) (hv : vb x = true) (Fn : VFn M k f (spFun O0 dom)) (hr : Room k X.A) (hm : (f, OV.lamc L cl) ∈ O) (hp : O.Perm (O0 ++ Ob)) (ha : PAv X B G O (e :: es) ds) (hd : dom ds v)
    (he : starEach (e :: es) X.env = (false, eval e X.env) :: starEach es X.env := by exact star_cons rfl) (hpl : (backTo pos (starEach es X.env)).any (·.1) = false := by rfl) : PEv X B G O (.Call (.Name x p) (e :: es) [] pos) v := fun F σ H S Q kk => by
  have hM := C.hM
  subst hM
  obtain ⟨i, h1, h2⟩ := hx.ix
  obtain ⟨w1, w2, w3⟩ := C.vis x hv
  obtain ⟨w, ev, rv⟩ := S.slot i _ h2
  cases rv
  refine sem (pe_callV (f := f) (L := L) (cl := cl) (i := i) (k := k) (sp := liftSp X.K (spFun O0 dom)) (E := fun σ cls dd H => wD X.K B (fun _ _ _ => False) cls dd σ H) (by rw [C.hN]; exact h1) w1 w2 w3 Fn hr (fun σ => L2N.passAt takes_no σ) pa_sem he hpl) ?_
  obtain ⟨_, c0, hc0, _⟩ := S.own _ hm
  refine ⟨⟨c0, hc0⟩, ev, ?_⟩
  refine ha F σ H S _ fun vs F1 H1 ds1 O1 S1 e1 r1 ⟨q1, q2⟩ => ?_
  subst q1 q2
  obtain ⟨_, c1, hc1, _⟩ := S1.own _ hm
  refine ⟨⟨c1, hc1⟩, ?_⟩
  exact post_run (Φ := fun d O' => d = v ∧ O'.Perm O1) (Ψ := fun _ _ _ => False) S1 r1 ⟨O0, Ob, hp, v, hd, rfl, rfl, hp.symm⟩ fun v2 F' H' d O' S' e' r' ⟨z1, z2⟩ => kk v2 F' H' d O1 (S'.perm z2) (e1.trans e') r' ⟨z1, rfl⟩
end
section
variable {X : Cx} {pins : List (Addr × Obj)} {σ : L2.St} {H F : Hp} {s : Shared}
/-- the making of a lambda with a closure -/
theorem lam_makeC {c P : Addr} {params : Arguments} {body : Expr} {scope : Scope} {pos : Pos} {E : Value → Shared → Prop} {Q : Value → Shared → Prop} (I : Inv X pins σ H s) (TB : TabB X.base X.mg c P) (hcode : X.env.code = .ref c)
    (sFH : Same F H) (hFP : F P = none) (hT : TabF F H P (X.env.qual ++ "<lambda>")) (hdef : defaultsOf params X.env = ([], [])) (hfr : ∀ y ∈ scope.names, y.2 = .free → ∃ c, X.env.cells.lookup y.1 = some c)
    (h : ∀ (f c' : Addr) (F1 H1 : Hp) (s' : Shared), Hz.Made F H F1 H1 P c' (X.env.qual ++ "<lambda>") → H1 f = none → Inv X pins σ (upd H1 f (LamOC f ⟨params, body, scope, X.env.qual ++ "<lambda>"⟩ (cloFrom X.env.cells scope.names []) c')) s' → Q (.ref f) s') :
    wpAny (model X.prog X.w) X.A (eval (.Lambda params body scope pos) X.env) Q E s := by
  obtain ⟨ps, hP, ht, hcs⟩ := hT
  have bP : s.heap.BuiltinsAt X.mg P := TB.bm.keeps I.bk
  have gP : s.heap.get? P = some { cls := .none, data := .fields ps } := I.hok P _ hP
  have laid : ∀ {Ha : Hp} {sa : Shared} {ctv pm : Value} {c' : Addr} {tk : Nat}, Inv X pins σ Ha sa → Inv X pins σ (upd Ha sa.heap.objs.size (LamOC sa.heap.objs.size ⟨params, body, scope, X.env.qual ++ "<lambda>"⟩ (cloFrom X.env.cells scope.names []) c')) { sa with heap := sa.heap.push (PySem.W.kla_obj "<lambda>" (X.env.qual ++ "<lambda>") params body scope (cloFrom X.env.cells scope.names []) pm c' ctv), toks := tk } := fun {Ha sa ctv pm c' tk} Ia => by
    refine Ia.laid (fun b u e => Heap.get?_push_of_some _ e) (Nat.le_refl _) ?_
    have e := Heap.get?_push_size sa.heap (o := PySem.W.kla_obj "<lambda>" (X.env.qual ++ "<lambda>") params body scope (cloFrom X.env.cells scope.names []) pm c' ctv) rfl
    exact ⟨⟨pm, ctv, e⟩, ⟨_, e⟩, fun h1 h2 ⟨p, t, z⟩ st => ⟨p, t, st _ z⟩⟩
  refine PySem.W.kla_eval hdef ?_
  cases hc : codeAmong pos ps.toList with
  | some cv =>
    obtain ⟨c', e, hco⟩ := hcs pos cv hc
    subst e
    refine PySem.W.kla_makeFunctionHit (mg := X.mg) (c := c) (P := P) (ps := ps) (closure_ok hfr) I.ok.glob (I.mod.glob.keeps I.bk) hcode (TB.code.keeps I.bk) gP ht hc bP fun ctv h' tk hx hsz => ?_
    have I1 : Inv X pins σ H { s with heap := h', toks := tk } := I.kept (t' := tk) fun b o e => hx b o e
    exact h h'.objs.size c' F H _ ⟨Same.refl _, sFH, ⟨ps, hP, ht, hcs⟩, fun _ _ _ e => e, fun b e n => absurd e n, hco⟩ (I1.hok.fresh (Nat.le_refl _)) (laid (tk := tk) I1)
  | none =>
    refine PySem.W.kla_makeFunction (mg := X.mg) (c := c) (P := P) (ps := ps) (closure_ok hfr) I.ok.glob (I.mod.glob.keeps I.bk) hcode (TB.code.keeps I.bk) gP ht hc TB.gP bP fun c' ctv h' tk hx hge hlt hrec htb => ?_
    obtain ⟨c2, oc, vs, t, e2, hoc, hd, hv⟩ := hrec
    cases e2
    have nC : H c' = none := I.hok.fresh hge
    have nFC : F c' = none := sFH.free nC
    have nPc : P ≠ c' := ne_of_none hP nC
    have I1 := inv_table (t' := tk) (more := #[rawInt pos.line, rawInt pos.col, .ref c']) (h' := h') I hP (fun b o hb e => hx b o hb e) htb hge ⟨oc, vs, t, hoc, hd, hv⟩
    have eL : (ps ++ #[rawInt pos.line, rawInt pos.col, .ref c']).toList = ps.toList ++ [rawInt pos.line, rawInt pos.col, .ref c'] := by simp
    refine h h'.objs.size c' (upd F c' (CodeO c' (X.env.qual ++ "<lambda>"))) _ _ ⟨same_upd nFC, fun b o e => ?_, ⟨_, by rw [upd_ne nPc, upd_same], by rw [eL]; exact PySem.TriplesOk_snoc _ _ _ _ ht, fun p' cv hcv => ?_⟩, fun b o n e => ?_, fun b e n => ?_, upd_same⟩ (I1.hok.fresh (Nat.le_refl _)) (laid (tk := tk) I1)
    · by_cases hb : b = c'
      · rw [hb, upd_same] at e
        rw [hb, upd_same]; exact e
      · rw [upd_ne hb] at e
        rw [upd_ne hb, upd_ne (fun z => by rw [z, hFP] at e; cases e)]
        exact sFH b o e
    · rw [eL] at hcv
      rcases among_app _ ht hcv with z | z
      · obtain ⟨c0, e1, e2⟩ := hcs p' cv z
        exact ⟨c0, e1, same_upd nFC _ _ e2⟩
      · exact ⟨c', z, upd_same⟩
    · rw [upd_ne (ne_of_none e nC), upd_ne n]
      exact e
    · by_cases hb : b = c'
      · rw [hb]; exact nC
      · rw [upd_ne hb] at n
        exact absurd e n
def tLamC (X : Cx) (P : Addr) (params : Arguments) (body : Expr) (scope : Scope) : TE := fun _ H Q => ∃ F, Same F H ∧ F P = none ∧ TabF F H P (X.env.qual ++ "<lambda>") ∧ ∀ F1 H1 c' f, Hz.Made F H F1 H1 P c' (X.env.qual ++ "<lambda>") → H1 f = none → Q (.ref f) (upd H1 f (LamOC f ⟨params, body, scope, X.env.qual ++ "<lambda>"⟩ (cloFrom X.env.cells scope.names []) c'))
theorem pe_lamC {c P : Addr} {params : Arguments} {body : Expr} {scope : Scope} {pos : Pos} (TB : TabB X.base X.mg c P) (hcode : X.env.code = .ref c) (hdef : defaultsOf params X.env = ([], [])) (hfr : ∀ y ∈ scope.names, y.2 = .free → X.env.scope.names.lookup y.1 = some .cell ∨ X.env.scope.names.lookup y.1 = some .free) :
    PE X (.Lambda params body scope pos) (tLamC X P params body scope) :=
  ⟨fun pins s σ H Q I ⟨F, sF, hF, hT, h⟩ => lam_makeC I TB hcode sF hF hT hdef (fun y hy e => I.ok.has y.1 (hfr y hy e)) fun f c' F1 H1 s' md nf I' => ⟨.ref f, _, I', rfl, h F1 H1 c' f md nf⟩⟩
end
section
variable {M : Mach} {X : Cx} {N : List Str} {sc : Scope} {vb lb gb : Str → Bool} {B : Bs} {G : Sl} {O O0 Ob : Own} {e a b : Expr} {es : List Expr} {pos p : Pos} {x : Str} {k i : Nat} {c P : Addr} {params : Arguments} {body : Expr} {scope : Scope}
def frB (sc scope : Scope) : Bool := scope.names.all fun y => !decide (y.2 = .free) || decide (sc.names.lookup y.1 = some .cell) || decide (sc.names.lookup y.1 = some .free)
theorem we_lamC {Φ : D → Own → Prop} (C : Cxt M X N sc vb lb gb) (TB : TabB M.base M.mg c P) (hcode : X.env.code = .ref c) (hm : (P, OV.tab (X.env.qual ++ "<lambda>")) ∈ O) (hfree : frB sc scope = true)
    (q : ∀ f, Φ (.obj f) ((f, .lamc ⟨params, body, scope, X.env.qual ++ "<lambda>"⟩ (cloFrom X.env.cells scope.names [])) :: O)) (hdef : defaultsOf params X.env = ([], []) := by rfl) : WE X B G O (.Lambda params body scope pos) Φ := fun F σ H S Q kk => by
  have hM := C.hM
  subst hM
  have hf : ∀ y ∈ scope.names, y.2 = .free → X.env.scope.names.lookup y.1 = some .cell ∨ X.env.scope.names.lookup y.1 = some .free := fun y hy e => by
    have z := List.all_eq_true.mp hfree y hy
    rw [C.hsc]
    simp only [Bool.or_eq_true, Bool.not_eq_true', decide_eq_false_iff_not, decide_eq_true_eq] at z
    rcases z with (z | z) | z
    · exact absurd e z
    · exact .inl z
    · exact .inr z
  obtain ⟨hFP, hT⟩ := S.own _ hm
  refine sem (pe_lamC TB hcode hdef hf) ⟨F, S.ex, hFP, hT, fun F1 H1 c' f md nf => ?_⟩
  exact kk _ F1 _ _ _ ((S.made hm md).allocOwn nf (ov := .lamc ⟨params, body, scope, X.env.qual ++ "<lambda>"⟩ (cloFrom X.env.cells scope.names [])) ⟨c', upd_same, md.code⟩) md.sF (.obj f) (q f)
theorem we_permd {Φ : D → Own → Prop} (h : WE X B G O e fun d O' => ∃ O'', O'.Perm O'' ∧ Φ d O'') : WE X B G O e Φ := fun F σ H S Q k => h F σ H S Q fun v F' H' d O' S' e' r p => by
  obtain ⟨O'', hp, p⟩ := p
  exact k v F' H' d O'' (S'.perm hp) e' r p
/-- a pure call that is handed owned objects -/
theorem pv_callP {Oa Ob : Own} {ds : List D} {sp : DSp} {v : D} (hp : O.Perm (Oa ++ Ob)) (C : Cxt M X N sc vb lb gb) (f : GFn M x k sp) (hr : Room k X.A) (hg : gb x = true) (ha : PAv X B G O (e :: es) ds) (h : ∀ Φ Ψ, Φ v Oa → sp ds Oa Φ Ψ)
    (he : starEach (e :: es) X.env = (false, eval e X.env) :: starEach es X.env := by exact star_cons rfl) (hpl : (backTo pos (starEach es X.env)).any (·.1) = false := by rfl) : PEv X B G O (.Call (.Name x p) (e :: es) [] pos) v :=
  we_permd (we_call C f hr takes_no hg (wa_pv ha ⟨Oa, Ob, hp, h _ _ ⟨O, hp.symm, rfl, rfl⟩⟩) he hpl)
theorem pt_leLe {b2 : Expr} {i j l : Int} (ha : PEv X B G O a (.int i)) (hb : PEv X B G O b (.int j)) (hc : PEv X B G O b2 (.int l)) (hm : lastMarks [.LtE, .LtE] [b, b2] = false := by with_unfolding_all rfl) : PTv X B G O (.Compare a [.LtE, .LtE] [b, b2] pos) (decide (i ≤ j) && decide (j ≤ l)) := ptv_chain op_le op_le ha hb hc hm
/-- what is known of the cells that are lent -/
structure LentC (X : Cx) (xs : NDs) (ca : Str → Addr) : Prop where
  at_ : ∀ q ∈ xs, X.env.cells.lookup q.1 = some (ca q.1)
theorem LentC.clo {X : Cx} {xs : NDs} {ca : Str → Addr} (l : LentC X xs ca) {names : List (Str × NameKind)} {ys : NDs} (hf : ∀ q ∈ ys, (q.1, NameKind.free) ∈ names) (hs : ∀ q ∈ ys, q.1 ∈ xs.map (·.1)) : ∀ q ∈ ys, (cloFrom X.env.cells names []).lookup q.1 = some (ca q.1) := fun q hq => by
  obtain ⟨r, hr, e⟩ := List.mem_map.mp (hs q hq)
  have z := l.at_ r hr
  rw [e] at z
  obtain ⟨c, hc⟩ := mem_lookup (cloFrom_has (cells := X.env.cells) (acc := []) (hf q hq))
  rcases cloFrom_mem (PySem.mem_of_lookup hc) with hm | ⟨_, h2⟩
  · cases hm
  · rw [hc, h2, z] <;> rfl
theorem clo_names {cells : List (Str × Addr)} {names : List (Str × NameKind)} {y : Str} {c : Addr} (h : (cloFrom cells names []).lookup y = some c) : (y, NameKind.free) ∈ names := by
  rcases cloFrom_mem (PySem.mem_of_lookup h) with hm | ⟨h1, _⟩
  · cases hm
  · exact h1
/-- .. of a lambda that was made here, this frame's cells lent -/
theorem vfn_clo {f : Addr} {q0 : Str} {ps gl : List Str} {xs0 : NDs} {ca : Str → Addr} {co : Str → Obj} {Or : Own} {dom : List D → D → Prop} (lc : LentC X xs0 ca) (ns nn : List Str) (xs : NDs) (hns : xs.map (·.1) = ns) (hnn : ps ++ ns = nn) (hS : lamVB scope ps ns = true) (hsc : lamSc scope nn gl = true)
    (hb : ∀ (cl : List (Str × Addr)) (c' : Addr) (pm ctv : Value) (us : List Value), us.length = ps.length → bindArgs (PySem.W.kla_fn "<lambda>" q0 params body scope cl pm (.ref c') ctv) ⟨us, []⟩ = pure (ps.zip us)) (hsub : ∀ q ∈ xs, q.1 ∈ xs0.map (·.1))
    (hp : O0.Perm (cels xs ca co ++ Or)) (hm : (f, OV.lamc ⟨params, body, scope, q0⟩ (cloFrom X.env.cells scope.names [])) ∈ Or) (hlen : ∀ ds v, dom ds v → ds.length = ps.length)
    (hbody : ∀ (X' : Cx) (B' : Bs) (ds : List D) (v : D), dom ds v → LamB M X' B' nn nn gl scope k (fun _ _ _ => False) → PEv X' B' (ds.map some ++ xs.map fun p => some p.2) Or body v) :
    VFn M (k + 1) f (spFun O0 dom) := by
  subst hnn
  have V := lamVS_by hS
  exact vfn_lam ns xs hns hS hsc (hb _) (lc.clo (fun q hq => PySem.mem_of_lookup (V.fre q.1 (by rw [← hns]; exact List.mem_map.mpr ⟨q, hq, rfl⟩))) hsub) (fun y c e => V.free _ (clo_names e) rfl) hp hm hlen hbody
/-- x(a, ..), x a def of the module, cells of this frame lent; a pure call -/
theorem we_callC {sp : DSp} {Φ : D → Own → Prop} (ns : List Str) (xs : NDs) (C : Cxt M X N sc vb lb gb) (f : GFn M x k sp) (hr : Room k X.A) (hg : gb x = true) (hx : ∀ q ∈ xs, VarAt N G q.1 q.2) (hns : xs.map (·.1) = ns) (hk : ns.all (fun q => lb q && decide (sc.names.lookup q = some .cell)) = true) (nd : ns.Nodup)
    (h : WA X B G O (e :: es) fun ds O1 => ∀ (ca : Str → Addr) (co : Str → Obj), LentC X xs ca → ∃ (Oa Ob : Own) (v : D), (cels xs ca co ++ O1).Perm (Oa ++ Ob) ∧ (∀ Φ' Ψ', Φ' v Oa → sp ds Oa Φ' Ψ') ∧ Φ v O1)
    (he : starEach (e :: es) X.env = (false, eval e X.env) :: starEach es X.env := by exact star_cons rfl) (hpl : (backTo pos (starEach es X.env)).any (·.1) = false := by rfl) : WE X B G O (.Call (.Name x p) (e :: es) [] pos) Φ := fun F σ H S Q kk => by
  have hM := C.hM
  subst hM
  subst hns
  obtain ⟨f, fd, ps, h1, h2, h3, h4⟩ := f
  refine ⟨fun pins s I => ?_⟩
  refine wpAny_Call_Name_kw (ld_glob I (C.gl x hg).1 h1 ?_ (C.gl x hg).2)
  have hA := h F σ H S (fun vs H1 => ∃ F1 ds O1, Sat X.K B G O1 F1 σ H1 ∧ Same F F1 ∧ Reps X.K F1 vs ds ∧ ∀ (ca : Str → Addr) (co : Str → Obj), LentC X xs ca → ∃ (Oa Ob : Own) (v : D), (cels xs ca co ++ O1).Perm (Oa ++ Ob) ∧ (∀ Φ' Ψ', Φ' v Oa → sp ds Oa Φ' Ψ') ∧ Φ v O1) fun vs F1 H1 ds O1 S1 e1 r1 p1 => ⟨F1, ds, O1, S1, e1, r1, p1⟩
  refine PySem.W.callWith_K (h₀ := X.base) I.ok.mod.kin h2 (thn (pa_sem.run pos pins s σ H _ I hA) fun us s1 ⟨vs, H1, I1, r, F1, ds, O1, S1, e1, r1, p1⟩ => ⟨I1.kIn, ?_⟩) he hpl
  -- the cells
  have cell : ∀ q ∈ xs, ∃ c o u v, X.env.cells.lookup q.1 = some c ∧ s1.heap.get? c = some o ∧ o.data = .cell (some u) ∧ RelV v u ∧ Rep X.K F1 v q.2 ∧ H1 c = none ∧ c ∉ frs X.stack ∧ X.base.get? c = none := fun q hq => by
    have z := List.all_eq_true.mp hk q.1 (List.mem_map.mpr ⟨q, hq, rfl⟩)
    rw [Bool.and_eq_true, decide_eq_true_eq] at z
    obtain ⟨i, g1, g2⟩ := (hx q hq).ix
    obtain ⟨v, ev, rv⟩ := S1.slot i _ g2
    have hkc : X.env.scope.names.lookup q.1 = some .cell := by rw [C.hsc]; exact z.2
    have hfn : X.fn q.1 = true := (C.loc q.1 z.1).2.elim id fun n => by rw [hkc] at n; cases n
    obtain ⟨c, o, u, a1, a2, a3, a4, a5, a6, a7⟩ := own_cell I1 (by rw [C.hN]; exact g1) ev hkc hfn
    exact ⟨c, o, u, v, a1, a2, a3, a4, rv, a5, a6, a7⟩
  let ca : Str → Addr := fun y => (X.env.cells.lookup y).getD 0
  let co : Str → Obj := fun y => (s1.heap.get? (ca y)).getD { cls := .none, data := .fields #[] }
  have hc : ∀ q ∈ xs, X.env.cells.lookup q.1 = some (ca q.1) ∧ s1.heap.get? (ca q.1) = some (co q.1) ∧ H1 (ca q.1) = none ∧ ca q.1 ∉ frs X.stack ∧ X.base.get? (ca q.1) = none ∧ ∃ u v, (co q.1).data = .cell (some u) ∧ RelV v u ∧ Rep X.K F1 v q.2 := fun q hq => by
    obtain ⟨c, o, u, v, a1, a2, a3, a4, a5, a6, a7, a8⟩ := cell q hq
    have ec : ca q.1 = c := by show (X.env.cells.lookup q.1).getD 0 = c; rw [a1]; rfl
    have eo : co q.1 = o := by show (s1.heap.get? (ca q.1)).getD _ = o; rw [ec, a2]; rfl
    rw [ec, eo]
    exact ⟨a1, a2, a6, a7, a8, u, v, a3, a4, a5⟩
  have hnd : (cadr xs ca).Nodup := by
    have : ∀ {l : NDs}, (∀ q ∈ l, q ∈ xs) → (l.map (·.1)).Nodup → (cadr l ca).Nodup := fun {l} => by
      induction l with
      | nil => exact fun _ _ => List.nodup_nil
      | cons q l ih =>
        intro hs n
        obtain ⟨n1, n2⟩ := List.nodup_cons.mp (show (q.1 :: l.map (·.1)).Nodup from n)
        refine List.nodup_cons.mpr ⟨fun hm => ?_, ih (fun y hy => hs y (List.mem_cons_of_mem _ hy)) n2⟩
        obtain ⟨y, hy, e⟩ := List.mem_map.mp hm
        have z1 := (hc q (hs q List.mem_cons_self)).1
        have z2 := (hc y (hs y (List.mem_cons_of_mem _ hy))).1
        have e : ca y.1 = ca q.1 := e
        rw [e] at z2
        have := I1.ok.inj _ _ _ z1 z2
        exact n1 (List.mem_map.mpr ⟨y, hy, this.symm⟩)
    exact this (fun _ h => h) nd
  obtain ⟨Oa, Ob, v, hp, hsp, q⟩ := p1 ca co ⟨fun q hq => (hc q hq).1⟩
  have SL := S1.lend (ca := ca) (co := co) hnd (fun q hq => (hc q hq).2.2.1) fun q hq => (hc q hq).2.2.2.2.2
  refine run_fnL (ls := lnt xs ca co) h4 hr h3 I1 ⟨by rw [lnt_cadr]; exact hnd, fun q hq => ?_⟩ r ?_
  · obtain ⟨y, hy, rfl⟩ := List.mem_map.mp hq
    obtain ⟨_, b1, b2, b3, b4, _⟩ := hc y hy
    exact ⟨b1, b2, b3, b4⟩
  · refine liftSp_mono (post_run (Φ := fun d O' => d = v ∧ O'.Perm (cels xs ca co ++ O1)) (Ψ := fun _ _ _ => False) SL r1 ⟨Oa, Ob, hp, hsp _ _ ⟨rfl, hp.symm⟩⟩ fun v2 F' H' d O' S' e' r' ⟨z1, z2⟩ => ?_) fun cls dd H' w => ?_
    · have S2 := S'.perm z2
      refine ⟨fun q hq => ?_, ?_⟩
      · obtain ⟨y, hy, rfl⟩ := List.mem_map.mp hq
        exact (S2.own _ (List.mem_append_left _ (List.mem_map.mpr ⟨y, hy, rfl⟩))).2.1
      · rw [lnt_cadr]
        subst z1
        exact kk v2 F' _ d O1 S2.unlend (e1.trans e') r' q
    · obtain ⟨_, _, _, _, _, _, w⟩ := w
      exact w
end
end Dl

set_option Elab.async false
set_option linter.all false
set_option maxRecDepth 100000
set_option maxHeartbeats 2000000
/-! D63: list(range(a, b)) over data. -/
namespace Dl
open PySem PySem.Spec PyProof.Rows L2
section
variable {M : Mach} {X : Cx} {N : List Str} {sc : Scope} {vb lb gb : Str → Bool} {B : Bs} {G : Sl} {O : Own} {a b : Expr} {pos p pos2 p2 : Pos} {i j : Int}
theorem reps_rg {K : PySem.W.Frag} {F : Hp} (a b : Int) : Reps K F (rgV a b) ((List.range (b - a).toNat).map fun i => D.int (a + (i : Nat))) := by
  unfold rgV
  generalize List.range (b - a).toNat = l
  induction l with
  | nil => exact .nil
  | cons x l ih => exact .cons (.int _) ih
theorem pn_listRg2 (C : Cxt M X N sc vb lb gb) (h1 : M.mg "list" = none) (h2 : M.mg "range" = none) (g1 : gb "list" = true) (g2 : gb "range" = true) (ha : PEv X B G O a (.int i)) (hb : PEv X B G O b (.int j)) (i0 : 0 ≤ i) (i1 : i ≤ 1000000) (j0 : 0 ≤ j) (j1 : j ≤ 1000000)
    (na : starEach [a, b] X.env = (false, eval a X.env) :: starEach [b] X.env := by exact star_cons rfl) (nb : starEach [b] X.env = (false, eval b X.env) :: starEach [] X.env := by exact star_cons rfl) (hp : (backTo pos2 (starEach [b] X.env)).any (·.1) = false := by rfl)
    (nc : starEach [.Call (.Name "range" p2) [a, b] [] pos2] X.env = (false, eval (.Call (.Name "range" p2) [a, b] [] pos2) X.env) :: starEach [] X.env := by exact star_cons rfl) :
    PNv X B G O (.Call (.Name "list" p) [.Call (.Name "range" p2) [a, b] [] pos2] [] pos) ((List.range (j - i).toNat).map fun k => D.int (i + (k : Nat))) := fun F σ H S Q k => by
  refine sem (pe_listRg C.calm (C.gl _ g1).1 (by rw [C.mg]; exact h1) (prg_2 (C.gl _ g2).1 (by rw [C.mg]; exact h2) pe_sem pe_sem na nb hp) nc) ?_
  refine ha F σ H S _ fun v F1 H1 d1 O1 S1 e1 r1 p1 => ?_
  obtain ⟨rfl, rfl⟩ := p1
  cases r1
  refine hb F1 σ H1 S1 _ fun v F2 H2 d2 O2 S2 e2 r2 p2 => ?_
  obtain ⟨rfl, rfl⟩ := p2
  cases r2
  refine ⟨i, j, rfl, rfl, RgOk.of_le i0 (by omega) (by omega) j0, fun q hq => ?_⟩
  exact k q _ F2 _ O2 (S2.allocOwn hq (ov := .lst _) ⟨_, upd_same, reps_rg i j⟩) (e1.trans e2) ⟨rfl, rfl⟩
end
end Dl

set_option Elab.async false
set_option linter.all false
set_option maxRecDepth 100000
set_option maxHeartbeats 2000000
namespace G42
open PySem PySem.Spec PyProof.Rows L2 Dl
local macro_rules | `(tactic| exists "va") => `(tactic| first | with_reducible exact VarAt.z | ((with_reducible apply VarAt.s); exists "va"))
local macro_rules | `(tactic| exists "sa") => `(tactic| first | with_reducible exact SetAt.z | ((with_reducible apply SetAt.s); exists "sa"))
local macro_rules | `(tactic| exists "mem") => `(tactic| with_reducible first | exact List.mem_cons_self | exact List.mem_cons_of_mem _ (List.mem_cons_self) | exact List.mem_cons_of_mem _ (List.mem_cons_of_mem _ (List.mem_cons_self)) | exact List.mem_cons_of_mem _ (List.mem_cons_of_mem _ (List.mem_cons_of_mem _ (List.mem_cons_self))) | exact List.mem_cons_of_mem _ (List.mem_cons_of_mem _ (List.mem_cons_of_mem _ (List.mem_cons_of_mem _ (List.mem_cons_self)))) | exact List.mem_cons_of_mem _ (List.mem_cons_of_mem _ (List.mem_cons_of_mem _ (List.mem_cons_of_mem _ (List.mem_cons_of_mem _ (List.mem_cons_self))))) | exact List.mem_cons_of_mem _ (List.mem_cons_of_mem _ (List.mem_cons_of_mem _ (List.mem_cons_of_mem _ (List.mem_cons_of_mem _ (List.mem_cons_of_mem _ (List.mem_cons_self)))))) | exact List.mem_cons_of_mem _ (List.mem_cons_of_mem _ (List.mem_cons_of_mem _ (List.mem_cons_of_mem _ (List.mem_cons_of_mem _ (List.mem_cons_of_mem _ (List.mem_cons_of_mem _ (List.mem_cons_self))))))) | assumption)
local macro_rules | `(tactic| exists "os") => `(tactic| with_reducible first | exact OSet.z | exact OSet.s OSet.z | exact OSet.s (OSet.s OSet.z) | exact OSet.s (OSet.s (OSet.s OSet.z)) | exact OSet.s (OSet.s (OSet.s (OSet.s OSet.z))))
local macro_rules | `(tactic| exists "od") => `(tactic| with_reducible first | exact ODel.z | exact ODel.s ODel.z | exact ODel.s (ODel.s ODel.z) | exact ODel.s (ODel.s (ODel.s ODel.z)) | exact ODel.s (ODel.s (ODel.s (ODel.s ODel.z))))
local macro_rules | `(tactic| exists "it") => `(tactic| first | exact Items.tup | exact Items.lst | (apply Items.own; exists "mem"))
local macro_rules | `(tactic| exists "il") => `(tactic| first | exact ItemsL.lst | (apply ItemsL.own; exists "mem"))
local macro_rules | `(tactic| exists "at") => `(tactic| first | exact at0 | exact at1 | exact at2 | exact at3 | exact at4 | assumption)
local macro_rules | `(tactic| exists "kt") => `(tactic| with_reducible first | exact kt_NoneType_int | exact kt_NoneType_bool | exact kt_NoneType_str | exact kt_NoneType_tuple | exact kt_NoneType_list | exact kt_bool_int | exact kt_bool_bool | exact kt_bool_str | exact kt_bool_tuple | exact kt_bool_list | exact kt_int_int | exact kt_int_bool | exact kt_int_str | exact kt_int_tuple | exact kt_int_list | exact kt_str_int | exact kt_str_bool | exact kt_str_str | exact kt_str_tuple | exact kt_str_list | exact kt_tuple_int | exact kt_tuple_bool | exact kt_tuple_str | exact kt_tuple_tuple | exact kt_tuple_list | exact kt_list_int | exact kt_list_bool | exact kt_list_str | exact kt_list_tuple | exact kt_list_list)
local macro_rules | `(tactic| exists "td") => `(tactic| first | exact TyD.int _ | exact TyD.str _ | exact TyD.tup _ | exact TyD.lst _ | exact TyD.bl _ | exact TyD.non | (apply TyD.own; exists "mem") | assumption)
local macro_rules | `(tactic| exists "ea") => `(tactic| first | with_reducible exact pa_nilv | ((with_reducible apply pa_consv); exists "ev"; exists "ea"; exact star_cons rfl))
local macro_rules | `(tactic| exists "en") => `(tactic| first | ((with_reducible apply pn_lst); exists "ea"; exact Nat.le_of_ble_eq_true rfl))
local macro_rules | `(tactic| exists "ev") => `(tactic| first
  | with_reducible exact pv_int | with_reducible exact pv_str | with_reducible exact pv_non | with_reducible exact pv_bl
  | ((with_reducible apply pv_var); assumption; exists "va"; decide +kernel)
  | ((with_reducible apply pv_add); exists "ev"; exists "ev") | ((with_reducible apply pv_sub); exists "ev"; exists "ev")
  | ((with_reducible apply pv_ix); exists "ev"; exists "ev"; exists "it"; exists "at"; intro _ _; rfl)
  | ((with_reducible apply pv_tup); exists "ea"; exact Nat.le_of_ble_eq_true rfl)
  | ((with_reducible apply pv_globI); assumption; assumption; decide +kernel)
  | ((with_reducible apply pv_len); assumption; exists "ev"; exists "it"; assumption; decide +kernel; exact fun _ _ => star_cons rfl)
  | ((with_reducible apply pv_min2); assumption; exists "ev"; exists "ev"; assumption; decide +kernel; exact fun _ _ => star_cons rfl; exact fun _ _ => star_cons rfl)
  | ((with_reducible apply pv_max2); assumption; exists "ev"; exists "ev"; assumption; decide +kernel; exact fun _ _ => star_cons rfl; exact fun _ _ => star_cons rfl)
  | ((with_reducible first | apply pv_tInt | apply pv_tBool | apply pv_tStr | apply pv_tTup | apply pv_tLst); assumption; assumption; decide +kernel)
  | ((with_reducible apply pv_isi); assumption; assumption; decide +kernel; exists "ev"; exists "td"; exists "ev"; exists "kt"; exact fun _ _ => star_cons rfl; exact fun _ _ => star_cons rfl)
  | ((with_reducible apply pv_leLe); exists "ev"; exists "ev"; exists "ev"; with_unfolding_all rfl)
  | ((with_reducible apply pv_not); exists "ev")
  | ((with_reducible apply pv_neg); exists "ev")
  | ((with_reducible apply pv_mod); exists "ev"; exists "ev"; first | assumption | decide)
  | ((with_reducible apply pv_fdiv); exists "ev"; exists "ev"; first | assumption | exact ⟨by decide, by decide⟩)
  | ((with_reducible apply pv_mul); exists "ev"; exists "ev"; first | assumption | exact Or.inl ⟨by decide, by decide⟩ | exact Or.inr ⟨by decide, by decide⟩)
  | ((with_reducible apply pv_pow); exists "ev"; exists "ev"; first | assumption | exact ⟨by decide, by decide, by decide⟩)
  | ((with_reducible apply pv_frz); exists "en"))
local macro_rules | `(tactic| exists "et") => `(tactic| first
  | ((with_reducible apply pt_lt); exists "ev"; exists "ev") | ((with_reducible apply pt_le); exists "ev"; exists "ev") | ((with_reducible apply pt_gt); exists "ev"; exists "ev") | ((with_reducible apply pt_ge); exists "ev"; exists "ev")
  | ((with_reducible apply pt_is); exists "ev"; exists "ev") | ((with_reducible apply pt_isnot); exists "ev"; exists "ev")
  | ((with_reducible apply pt_eq); exists "ev"; exists "ev"; rfl) | ((with_reducible apply pt_ne); exists "ev"; exists "ev"; rfl)
  | ((with_reducible apply pt_notv); exists "et") | (apply PWv.t; exists "ew") | ((with_reducible apply pt_v); exists "ev"; intro _; rfl))
local macro_rules | `(tactic| exists "ew") => `(tactic| first
  | ((with_reducible apply pwv_and); exists "et"; intro _; exists "ew") | ((with_reducible apply pwv_and1); exists "et") | ((with_reducible apply pwv_or); exists "et"; intro _; exists "ew") | ((with_reducible apply pwv_or1); exists "et"))
local macro_rules | `(tactic| exists "t1") => `(tactic| refine wg_name (by assumption) (by exists "sa") (by decide +kernel) trivial ?_)
local macro_rules | `(tactic| exists "t2") => `(tactic| refine wg_tup (by assumption) (wgs_cons (wg_name (by assumption) (by exists "sa") (by decide +kernel) trivial (wgs_cons (wg_name (by assumption) (by exists "sa") (by decide +kernel) trivial (wgs_nil ?_))))))
local macro_rules | `(tactic| exists "t3") => `(tactic| refine wg_tup (by assumption) (wgs_cons (wg_name (by assumption) (by exists "sa") (by decide +kernel) trivial (wgs_cons (wg_name (by assumption) (by exists "sa") (by decide +kernel) trivial (wgs_cons (wg_name (by assumption) (by exists "sa") (by decide +kernel) trivial (wgs_nil ?_))))))))
local macro_rules | `(tactic| exists "nx") => `(tactic| dsimp only [List.cons_append, List.nil_append, to_nx, to_rt, to_bk, to_ct, loop_nx, loop_rt, loop_bk, loop_ct, fn_nx, fn_rt])
local macro_rules | `(tactic| exists "fz") => `(tactic| repeat first | with_reducible exact FrzAt.nil | with_reducible apply FrzAt.hit | with_reducible apply FrzAt.miss)
local macro_rules | `(tactic| exists "p2") => `(tactic| refine ws_par (by assumption) (by exists "sa") (fun _ => by exists "sa") rfl rfl rfl (by decide +kernel) (by decide) rfl rfl ?_)
local macro_rules | `(tactic| exists "p3") => `(tactic| refine ws_par3 (by assumption) (by exists "sa") (fun _ => by exists "sa") (fun _ _ => by exists "sa") rfl rfl rfl rfl rfl (by decide +kernel) (by decide) (by decide) (by decide) rfl rfl ?_)
local macro_rules | `(tactic| exists "wp") => `(tactic| simp only [wipeD, List.map_cons, List.map_nil, List.set_cons_succ, List.set_cons_zero])

def topS (i : Nat) : Stmt := PySem.Challenge.pw_lapsepoints_k12_whole_lives_told_back.main.body.getD i (.Pass ⟨0, 0, 0, 0⟩)
/-! ### lots: time, amount, index -/
abbrev Lot := Int × Int × Int
abbrev eLot (l : Lot) : D := .tup [.int l.1, .int l.2.1, .int l.2.2]
/-- what is left when all points that are too old at a time have gone, and these -/
def lapseF (life time : Int) : List Lot → List Lot × List Lot
  | [] => ([], [])
  | l :: r => if l.1 + life ≤ time then ((lapseF life time r).1, (l.1 + life, l.2.1, l.2.2) :: (lapseF life time r).2) else (l :: r, [])
/-- points taken from the oldest lots on: what is left, what is taken from each -/
def takeF : List Lot → Int → List Lot × List (Int × Int)
  | [], _ => ([], [])
  | l :: r, n => if 0 < n then (if l.2.1 ≤ n then ((takeF r (n - l.2.1)).1, (l.2.2, l.2.1) :: (takeF r (n - l.2.1)).2) else ((l.1, l.2.1 - n, l.2.2) :: r, [(l.2.2, n)])) else (l :: r, [])
def total (ls : List Lot) : Int := (ls.map fun l => l.2.1).sum
def PosL (ls : List Lot) : Prop := ∀ l ∈ ls, 0 < l.2.1
theorem total_cons (l : Lot) (r : List Lot) : total (l :: r) = l.2.1 + total r := by unfold total; rw [List.map_cons, List.sum_cons]
theorem total_nil : total [] = 0 := rfl
theorem PosL.tail {l : Lot} {r : List Lot} (h : PosL (l :: r)) : PosL r := fun x hx => h x (List.mem_cons_of_mem _ hx)
theorem PosL.total {ls : List Lot} (h : PosL ls) : 0 ≤ total ls := by
  induction ls with
  | nil => exact Int.le_refl _
  | cons l r ih =>
    have h1 := ih h.tail
    have h2 := h l List.mem_cons_self
    rw [total_cons]
    omega
abbrev ePr (p : Int × Int) : D := .tup [.int p.1, .int p.2]
/-! ### lapse -/
abbrev nLapse : List Str := ["lots", "lapsed", "life", "time", "earned", "amount", "index"]
def spLapse : DSp := fun ds O Φ _ => ∃ (a b : Addr) (ls gs : List Lot) (life time : Int), ds = [.obj a, .obj b, .int life, .int time] ∧ O = [(a, .lst (ls.map eLot)), (b, .lst (gs.map eLot))] ∧ ls.length + gs.length < 100000 ∧
  Φ .non [(a, .lst ((lapseF life time ls).1.map eLot)), (b, .lst ((gs ++ (lapseF life time ls).2).map eLot))]
theorem sh_lots (ls : List Lot) : SeqAt.shaped (.list (toPyL (ls.map eLot))) = true := shaped_map (f := eLot) fun x _ => ⟨rfl, Nat.le_of_ble_eq_true rfl⟩
theorem sc_lapse : FnScope nLapse ["lots", "lapsed", "life", "time"] (defScope (topS 24)) := ⟨rfl, rfl, rfl, by decide +kernel, rfl, by decide +kernel, by decide +kernel⟩
theorem ok_lapse {M : Mach} {f : Addr} {fd : FuncData} {k : Nat} (F : Fun M.K "lapse" "lapse" (topS 24) f fd) : FnOk M.P M.w M.K M.mg M.base (L2N.CX M.P M.w) (k + 1) f fd ["lots", "lapsed", "life", "time"] (liftSp M.K spLapse) := by
  refine fn_body (N := nLapse) (vn := nLapse) (gl := []) F sc_lapse (by decide +kernel) (fun ds O Φ Ψ h => ?_) fun X B ds O Φ Ψ bd h => ?_
  · obtain ⟨a, b, ls, gs, life, time, rfl, _⟩ := h
    rfl
  obtain ⟨a, b, ls, gs, life, time, rfl, rfl, hlen, q⟩ := h
  have C := bd.C
  refine wss_one (ws_while C (fun m G' O' => ∃ ls' gs' g4 g5 g6, m = ls'.length ∧ G' = [some (.obj a), some (.obj b), some (.int life), some (.int time), g4, g5, g6] ∧ O' = [(a, .lst (ls'.map eLot)), (b, .lst (gs'.map eLot))] ∧
    (lapseF life time ls').1 = (lapseF life time ls).1 ∧ gs' ++ (lapseF life time ls').2 = gs ++ (lapseF life time ls).2 ∧ ls'.length + gs'.length < 100000) ⟨_, ls, gs, none, none, none, rfl, rfl, rfl, rfl, rfl, hlen⟩ ?_)
  rintro m G' O' ⟨ls', gs', g4, g5, g6, rfl, rfl, rfl, e1, e2, hl⟩
  refine WW.t (ww_and (wt_pv (pt_neNil C (by exists "ev") (by exists "il") (sh_lots ls')) ?_))
  cases ls' with
  | nil =>
    refine if_f rfl (if_f rfl ?_)
    have h1 : (lapseF life time ls).1 = [] := e1.symm
    have h2 : gs ++ (lapseF life time ls).2 = gs' := by rw [← e2]; exact List.append_nil _
    rw [h1, h2] at q
    exact q
  | cons l r =>
    refine if_t rfl (ww_and1 (wt_pv (by exists "et") ?_))
    have hl' : r.length + 1 + gs'.length < 100000 := hl
    refine if_d (fun hq => ?_) (fun hq => ?_)
    · refine wss_cons (ws_asg (vs := fun _ => True) (we_popAt (by exists "ev") (by exists "mem") (we_pv pv_int ⟨0, _, eLot l, _, rfl, (by exists "mem"), rfl, by decide, (by exists "os"), ?_⟩)))
      exists "t3"
      exists "nx"
      refine wss_one (ws_expr (we_append (by exists "ev") (by exists "mem") (we_pv (by exists "ev") ⟨_, _, (by exists "mem"), by rw [List.length_map]; omega, (by exists "os"), ?_⟩)))
      have s1 : (lapseF life time (l :: r)).1 = (lapseF life time r).1 := by rw [lapseF, if_pos hq]
      have s2 : (lapseF life time (l :: r)).2 = (l.1 + life, l.2.1, l.2.2) :: (lapseF life time r).2 := by rw [lapseF, if_pos hq]
      refine ⟨r.length, Nat.lt_succ_self _, r, gs' ++ [(l.1 + life, l.2.1, l.2.2)], _, _, _, rfl, rfl, ?_, by rw [← e1, s1], by rw [← e2, s2, List.append_assoc]; rfl, by rw [List.length_append, List.length_singleton]; omega⟩
      rw [List.map_append]
      rfl
    · have s1 : lapseF life time (l :: r) = (l :: r, []) := by rw [lapseF, if_neg hq]
      rw [s1] at e1 e2
      have h2 : gs ++ (lapseF life time ls).2 = gs' := by rw [← e2]; exact List.append_nil _
      rw [← e1, h2] at q
      exact q
/-! ### take -/
abbrev nTake : List Str := ["lots", "amount", "taken", "part"]
def spTake : DSp := fun ds O Φ _ => ∃ (a : Addr) (ls : List Lot) (n : Int), ds = [.obj a, .int n] ∧ O = [(a, .lst (ls.map eLot))] ∧ PosL ls ∧ 0 ≤ n ∧ n ≤ total ls ∧ ls.length < 1000 ∧
  ∀ p, Φ (.obj p) [(p, .lst ((takeF ls n).2.map ePr)), (a, .lst ((takeF ls n).1.map eLot))]
theorem sc_take : FnScope nTake ["lots", "amount"] (defScope (topS 25)) := ⟨rfl, rfl, rfl, by decide +kernel, rfl, by decide +kernel, by decide +kernel⟩
theorem ok_take {M : Mach} {f : Addr} {fd : FuncData} {k : Nat} (F : Fun M.K "take" "take" (topS 25) f fd) (hmin : M.mg "min" = none) : FnOk M.P M.w M.K M.mg M.base (L2N.CX M.P M.w) (k + 1) f fd ["lots", "amount"] (liftSp M.K spTake) := by
  refine fn_body (N := nTake) (vn := nTake) (gl := ["min"]) F sc_take (by decide +kernel) (fun ds O Φ Ψ h => ?_) fun X B ds O Φ Ψ bd h => ?_
  · obtain ⟨a, ls, n, rfl, _⟩ := h
    rfl
  obtain ⟨a, ls, n, rfl, rfl, pos, h0, hn, hlen, q⟩ := h
  have C := bd.C
  change WSs _ _ [some _, some _, none, none] _ _ _
  refine wss_cons (ws_set C (by exists "sa") (by decide +kernel) (we_own (wn_pv (pn_lst pa_nilv) fun p => ?_)))
  exists "nx"
  refine wss_cons (ws_while C (fun m G' O' => ∃ n' ls' tk g3, m = n'.toNat ∧ G' = [some (.obj a), some (.int n'), some (.obj p), g3] ∧ O' = [(p, .lst (tk.map ePr)), (a, .lst (ls'.map eLot))] ∧ PosL ls' ∧ 0 ≤ n' ∧ n' ≤ total ls' ∧
    (takeF ls' n').1 = (takeF ls n).1 ∧ tk ++ (takeF ls' n').2 = (takeF ls n).2 ∧ (0 < n' → ls'.length + tk.length < 10000)) ⟨_, n, ls, [], none, rfl, rfl, rfl, pos, h0, hn, rfl, rfl, fun _ => by show ls.length + 0 < 10000; omega⟩ ?_)
  rintro m G' O' ⟨n', ls', tk, g3, rfl, rfl, rfl, pos', h0', hn', e1, e2, hl⟩
  refine wt_pv (by exists "et") (if_d (fun hq => ?_) (fun hq => ?_))
  · cases ls' with
    | nil => rw [total_nil] at hn'; omega
    | cons l r =>
      have pl := pos' l List.mem_cons_self
      have hl' : r.length + 1 + tk.length < 10000 := hl hq
      rw [total_cons] at hn'
      refine wss_cons (ws_set C (by exists "sa") (by decide +kernel) (we_pv (by exists "ev") ?_))
      exists "nx"
      refine wss_cons (ws_expr (we_append (by exists "ev") (by exists "mem") (we_pv (by exists "ev") ⟨_, _, (by exists "mem"), by rw [List.length_map]; omega, (by exists "os"), ?_⟩)))
      exists "nx"
      refine wss_cons (ws_augI C ip_sub (by exists "va") (by exists "sa") (by decide +kernel) (we_pv (by exists "ev") ⟨_, rfl, ?_⟩))
      exists "nx"
      refine wss_one (ws_if (wt_pv (by exists "et") (if_d (fun hp => ?_) (fun hp => ?_))))
      · -- all of it
        have hle : l.2.1 ≤ n' := by split at hp <;> omega
        have hm : (if l.2.1 < n' then l.2.1 else n') = l.2.1 := by split <;> omega
        refine wss_one (ws_expr (we_popAt (by exists "ev") (by exists "mem") (we_pv pv_int ⟨0, _, _, _, rfl, (by exists "mem"), rfl, by decide, (by exists "os"), ?_⟩)))
        exists "nx"
        rw [hm]
        have s1 : (takeF (l :: r) n').1 = (takeF r (n' - l.2.1)).1 := by rw [takeF, if_pos hq, if_pos hle]
        have s2 : (takeF (l :: r) n').2 = (l.2.2, l.2.1) :: (takeF r (n' - l.2.1)).2 := by rw [takeF, if_pos hq, if_pos hle]
        refine ⟨_, ?_, n' - l.2.1, r, tk ++ [(l.2.2, l.2.1)], _, rfl, rfl, ?_, pos'.tail, by omega, by omega, by rw [← e1, s1], by rw [← e2, s2, List.append_assoc]; rfl, fun _ => by rw [List.length_append, List.length_singleton]; omega⟩
        · omega
        · rw [List.map_append]; rfl
      · have hlt : n' < l.2.1 := by split at hp <;> omega
        have hm : (if l.2.1 < n' then l.2.1 else n') = n' := by split <;> omega
        refine wss_one (ws_asg (vs := fun _ => True) (we_pv (by exists "ev") (wg_sub (we_pv (by exists "ev") ⟨_, rfl, we_pv pv_int ⟨0, 0, _, _, rfl, (by exists "mem"), ix0, (by exists "os"), ?_⟩⟩))))
        exists "nx"
        rw [hm]
        have s0 : takeF (l :: r) n' = ((l.1, l.2.1 - n', l.2.2) :: r, [(l.2.2, n')]) := by rw [takeF, if_pos hq, if_neg (by omega)]
        have s1 : takeF ((l.1, l.2.1 - n', l.2.2) :: r) (n' - n') = ((l.1, l.2.1 - n', l.2.2) :: r, []) := by rw [takeF, if_neg (by omega)]
        refine ⟨_, ?_, n' - n', (l.1, l.2.1 - n', l.2.2) :: r, tk ++ [(l.2.2, n')], _, rfl, rfl, ?_, fun x hx => ?_, by omega, ?_, by rw [← e1, s0, s1], by rw [← e2, s0, s1, List.append_assoc]; rfl, fun hz => absurd hz (by omega)⟩
        · omega
        · rw [List.map_append]; rfl
        · rcases List.mem_cons.mp hx with e | hx
          · rw [e]; show 0 < l.2.1 - n'; omega
          · exact pos' x (List.mem_cons_of_mem _ hx)
        · rw [total_cons]
          have := pos'.tail.total
          show n' - n' ≤ (l.2.1 - n') + total r
          omega
  · have hz : n' = 0 := by omega
    subst hz
    have s0 : takeF ls' 0 = (ls', []) := by
      cases ls' with
      | nil => rfl
      | cons l r => rw [takeF, if_neg (by omega)]
    rw [s0] at e1 e2
    refine wss_one (ws_ret (we_pv (by exists "ev") ?_))
    exists "nx"
    have z := q p
    rw [← e1, ← e2, List.append_nil] at z
    exact z
/-! ### play -/
/-- earned or spent, time, amount -/
abbrev Ev := Bool × Int × Int
abbrev kW (b : Bool) : Str := if b then "earn" else "spend"
abbrev eEv (e : Ev) : D := .tup [.str (kW e.1), .int e.2.1, .int e.2.2]
abbrev Tk := List (Int × Int)
abbrev eTk (t : Tk) : D := .tup (t.map ePr)
abbrev Pl := List Lot × List Lot × List Tk × Option Nat
def runF (life til : Int) : Nat → List Ev → List Lot → List Lot → List Tk → Pl
  | _, [], ls, gs, ts => (ls, gs, ts, none)
  | i, e :: r, ls, gs, ts => if e.2.1 ≤ til then
      (if e.1 = true then runF life til (i + 1) r ((lapseF life e.2.1 ls).1 ++ [(e.2.1, e.2.2, (i : Int))]) (gs ++ (lapseF life e.2.1 ls).2) ts
       else if total (lapseF life e.2.1 ls).1 < e.2.2 then ((lapseF life e.2.1 ls).1, gs ++ (lapseF life e.2.1 ls).2, ts, some i)
       else runF life til (i + 1) r (takeF (lapseF life e.2.1 ls).1 e.2.2).1 (gs ++ (lapseF life e.2.1 ls).2) (ts ++ [(takeF (lapseF life e.2.1 ls).1 e.2.2).2]))
    else runF life til (i + 1) r ls gs ts
def endF (life til : Int) (r : Pl) : Pl := match r.2.2.2 with
  | some _ => r
  | none => ((lapseF life til r.1).1, r.2.1 ++ (lapseF life til r.1).2, r.2.2.1, none)
def playF (life til : Int) (log : List Ev) : Pl := endF life til (runF life til 0 log [] [] [])
def eOpt : Option Nat → D
  | none => .non
  | some i => .int (i : Int)
abbrev ePl (r : Pl) : D := .tup [.lst (r.1.map eLot), .lst (r.2.1.map eLot), .lst (r.2.2.1.map eTk), eOpt r.2.2.2]
def PosEv (log : List Ev) : Prop := ∀ e ∈ log, 0 < e.2.2
theorem lapseF_len (life t : Int) (ls : List Lot) : (lapseF life t ls).1.length + (lapseF life t ls).2.length = ls.length := by
  induction ls with
  | nil => rfl
  | cons l r ih =>
    rw [lapseF]
    split
    · show (lapseF life t r).1.length + ((lapseF life t r).2.length + 1) = r.length + 1
      omega
    · rfl
theorem lapseF_mem (life t : Int) (ls : List Lot) : ∀ x ∈ (lapseF life t ls).1, x ∈ ls := by
  induction ls with
  | nil => exact fun x h => h
  | cons l r ih =>
    rw [lapseF]
    split
    · exact fun x h => List.mem_cons_of_mem _ (ih x h)
    · exact fun x h => h
theorem takeF_len (ls : List Lot) : ∀ n, (takeF ls n).1.length ≤ ls.length := by
  induction ls with
  | nil => exact fun n => Nat.le_refl _
  | cons l r ih =>
    intro n
    rw [takeF]
    have := ih (n - l.2.1)
    split
    · split
      · exact Nat.le_succ_of_le this
      · exact Nat.le_refl _
    · exact Nat.le_refl _
theorem takeF_pos {ls : List Lot} (h : PosL ls) : ∀ n, PosL (takeF ls n).1 := by
  induction ls with
  | nil => exact fun n => h
  | cons l r ih =>
    intro n
    rw [takeF]
    split
    · split
      · exact ih h.tail _
      · intro x hx
        rcases List.mem_cons.mp hx with e | hx
        · rw [e]
          show 0 < l.2.1 - n
          omega
        · exact h.tail x hx
    · exact h
abbrev nPlay : List Str := ["log", "life", "until", "lots", "lapsed", "taken", "index", "kind", "time", "amount", "lot"]
def spPlay : DSp := fun ds O Φ _ => ∃ (log : List Ev) (life til : Int), ds = [.tup (log.map eEv), .int life, .int til] ∧ O = [] ∧ PosEv log ∧ log.length ≤ 100 ∧ Φ (ePl (playF life til log)) []
theorem sc_play : FnScope nPlay ["log", "life", "until"] (defScope (topS 26)) := ⟨rfl, rfl, rfl, by decide +kernel, rfl, by decide +kernel, by decide +kernel⟩
theorem ok_play {M : Mach} {f : Addr} {fd : FuncData} {k : Nat} (F : Fun M.K "play" "play" (topS 26) f fd) (hen : M.mg "enumerate" = none) (hsum : M.mg "sum" = none) (htu : M.mg "tuple" = none) (gl : GFn M "lapse" k spLapse) (gt : GFn M "take" k spTake) :
    FnOk M.P M.w M.K M.mg M.base (L2N.CX M.P M.w) (k + 1) f fd ["log", "life", "until"] (liftSp M.K spPlay) := by
  refine fn_body (N := nPlay) (vn := ["log", "life", "until", "lots", "lapsed", "taken", "index", "kind", "time", "amount"]) (gl := ["enumerate", "sum", "tuple", "lapse", "take"]) F sc_play (by decide +kernel) (fun ds O Φ Ψ h => ?_) fun X B ds O Φ Ψ bd h => ?_
  · obtain ⟨_, _, _, rfl, _⟩ := h
    rfl
  obtain ⟨log, life, til, rfl, rfl, pos, hlen, q⟩ := h
  have C := bd.C
  change WSs _ _ [some _, some _, some _, none, none, none, none, none, none, none, none] _ _ _
  refine wss_cons ?_
  exists "p3"
  refine wa_cons (we_own (wn_pv (pn_lst pa_nilv) fun a => wa_cons (we_own (wn_pv (pn_lst pa_nilv) fun b => wa_cons (we_own (wn_pv (pn_lst pa_nilv) fun c => wa_nil ⟨_, _, _, rfl, ?_⟩))))))
  exists "nx"
  refine wss_perm (O' := [(a, .lst []), (b, .lst []), (c, .lst [])]) (List.reverse_perm [_, _, _]) ?_
  refine wss_cons (ws_for C (wi_v (wiv_enumT C hen (by decide +kernel) (by exists "ev")) ⟨fun i G' O' => ∃ ls gs ts g6 g7 g8 g9 g10, G' = [some (.tup (log.map eEv)), some (.int life), some (.int til), some (.obj a), some (.obj b), some (.obj c), g6, g7, g8, g9, g10] ∧
    O' = [(a, .lst (ls.map eLot)), (b, .lst (gs.map eLot)), (c, .lst (ts.map eTk))] ∧ runF life til i (log.drop i) ls gs ts = runF life til 0 log [] [] [] ∧ PosL ls ∧ ls.length + gs.length ≤ i ∧ ts.length ≤ i ∧ i ≤ 100, ⟨[], [], [], _, _, _, _, _, rfl, rfl, rfl, fun _ h => (List.not_mem_nil h).elim, Nat.le_refl _, Nat.le_refl _, Nat.zero_le _⟩,
    fun _ _ _ _ _ p hp => (List.not_mem_nil hp).elim, ?_, ?_⟩))
  · rintro i d G' O' hd ⟨ls, gs, ts, g6, g7, g8, g9, g10, rfl, rfl, e1, ps, h1, h2, _⟩
    obtain ⟨⟨kd, t, n⟩, hx, rfl, hdr⟩ := enum_at hd
    have hi := (List.getElem?_eq_some_iff.mp hx).1
    have hn : 0 < n := pos _ (List.mem_of_getElem? hx)
    rw [hdr] at e1
    refine wg_tup C (wgs_cons (wg_name C (by exists "sa") (by decide +kernel) trivial (wgs_cons ?_)))
    exists "t3"
    refine wgs_nil (wss_one (ws_if (wt_pv (by exists "et") (if_d (fun hq => ?_) (fun hq => ?_)))))
    · rw [runF, if_pos hq] at e1
      dsimp only at e1
      have hL := lapseF_len life t ls
      have hP : PosL (lapseF life t ls).1 := fun x hx => ps x (lapseF_mem life t ls x hx)
      generalize hLF : lapseF life t ls = LF at e1 hL hP
      obtain ⟨l1, g1⟩ := LF
      dsimp only at e1 hL hP
      refine wss_cons (ws_expr (we_call C gl bd.r takes_no (by decide +kernel) (wa_pv (by exists "ea") ⟨[(a, _), (b, _)], [(c, _)], List.Perm.refl _, a, b, ls, gs, life, t, rfl, rfl, by omega, ?_⟩)))
      rw [hLF]
      exists "nx"
      cases kd with
      | true =>
        rw [if_pos rfl] at e1
        refine wss_one (ws_ifv (c := true) (by exists "et") (fun _ => ?_) (fun h => by cases h))
        refine wss_one (ws_expr (we_append (by exists "ev") (by exists "mem") (we_pv (by exists "ev") ⟨_, _, (by exists "mem"), by rw [List.length_map]; omega, (by exists "os"), ?_⟩)))
        refine ⟨l1 ++ [(t, n, (i : Int))], gs ++ g1, ts, _, _, _, _, _, rfl, ?_, e1, ?_, ?_, by omega, by omega⟩
        · simp only [List.map_append, List.map_cons, List.map_nil]
        · intro x hx
          rcases List.mem_append.mp hx with hx | hx
          · exact hP x hx
          · rw [List.mem_singleton.mp hx]; exact hn
        · rw [List.length_append, List.length_append, List.length_singleton]; omega
      | false =>
        rw [if_neg (by decide)] at e1
        refine wss_one (ws_ifv (c := false) (by exists "et") (fun h => by cases h) (fun _ => ?_))
        refine wss_one (ws_if (wt_pv (pt_lt (pv_sumLcA (own := [("lot", 10)]) (f := fun l : Lot => l.2.1) C hsum (by decide +kernel) (by decide +kernel) (wiv_own (by exists "ev") (by exists "mem")) (fun p hp => by rw [List.mem_singleton.mp hp]; exists "mem") (by omega) fun l hl => ⟨fun X' B' b => ?_⟩) (by exists "ev")) (if_d (fun hr => ?_) (fun hr => ?_))))
        · have C' := b.C
          exists "wp"
          refine wg_name C' (by exists "sa") (by decide +kernel) (by decide) ⟨rfl, fun X2 b2 => wf_nil ⟨rfl, rfl⟩, fun _ X3 b3 => ?_⟩
          have C3 := b3.C
          exists "ev"
        · have hr : total l1 < n := hr
          rw [if_pos hr] at e1
          refine wss_freeze (p := a) (by exists "od") (by exists "fz") (wss_freeze (p := b) (by exists "od") (by exists "fz") (wss_freeze (p := c) (by exists "od") (by exists "fz") ?_))
          refine wss_one (ws_ret (we_pv (by exists "ev") ?_))
          exists "nx"
          rw [playF, ← e1] at q
          exact q
        · have hr : ¬ total l1 < n := hr
          rw [if_neg hr] at e1
          have hl := takeF_len l1 n
          have hp' := takeF_pos hP n
          refine wss_one (ws_expr (we_less (we_append (by exists "ev") (by exists "mem") (we_tuple C htu (by decide +kernel) (we_call C gt bd.r takes_no (by decide +kernel) (wa_pv (by exists "ea") ⟨[(a, _)], [(b, _), (c, _)], List.Perm.refl _, a, l1, n, rfl, rfl, hP, by omega, Int.not_lt.mp hr, by omega, fun p => ?_⟩))))))
          exists "nx"
          refine ⟨_, Items.own (by exists "mem"), _, _, (by exists "mem"), by rw [List.length_map]; omega, (by exists "os"), [(a, _), (b, _), (c, _)], List.sublist_cons_self _ _, (takeF l1 n).1, gs ++ g1, ts ++ [(takeF l1 n).2], _, _, _, _, _, rfl, ?_, e1, hp', ?_, ?_, by omega⟩
          · simp only [List.map_append, List.map_cons, List.map_nil]
          · rw [List.length_append]; omega
          · rw [List.length_append, List.length_singleton]; omega
    · rw [runF, if_neg hq] at e1
      refine wss_nil ⟨ls, gs, ts, _, _, _, _, _, rfl, rfl, e1, ps, by omega, by omega, by omega⟩
  · rintro G' O' ⟨ls, gs, ts, g6, g7, g8, g9, g10, rfl, rfl, e1, ps, h1, h2, _⟩
    have hz : log.drop (enumD (log.map eEv)).length = [] := by rw [enumD_length, List.length_map, List.drop_length]
    rw [hz, runF] at e1
    have hL := lapseF_len life til ls
    have hQ : playF life til log = ((lapseF life til ls).1, gs ++ (lapseF life til ls).2, ts, none) := by rw [playF, ← e1]; rfl
    rw [enumD_length, List.length_map] at h1
    refine wss_cons (ws_expr (we_call C gl bd.r takes_no (by decide +kernel) (wa_pv (by exists "ea") ⟨[(a, _), (b, _)], [(c, _)], List.Perm.refl _, a, b, ls, gs, life, til, rfl, rfl, by omega, ?_⟩)))
    exists "nx"
    refine wss_freeze (p := a) (by exists "od") (by exists "fz") (wss_freeze (p := b) (by exists "od") (by exists "fz") (wss_freeze (p := c) (by exists "od") (by exists "fz") ?_))
    refine wss_one (ws_ret (we_pv (by exists "ev") ?_))
    exists "nx"
    rw [hQ] at q
    exact q
/-! ### checks -/
def isFromD : D → Int → Int → Bool
  | .int i, lo, hi => decide (lo ≤ i) && decide (i ≤ hi)
  | _, _, _ => false
abbrev nIsFrom : List Str := ["value", "low", "high"]
def spIsFrom : DSp := fun ds O Φ _ => ∃ (d : D) (t : String) (lo hi : Int), ds = [d, .int lo, .int hi] ∧ TyD O d t ∧ Φ (.bl (isFromD d lo hi)) O
theorem sc_isfrom : FnScope nIsFrom nIsFrom (defScope (topS 20)) := ⟨rfl, rfl, rfl, by decide +kernel, rfl, by decide +kernel, by decide +kernel⟩
theorem ok_isfrom {M : Mach} {f : Addr} {fd : FuncData} {k : Nat} (F : Fun M.K "is_from" "is_from" (topS 20) f fd) (h1 : M.mg "isinstance" = none) (h2 : M.mg "int" = none) (h3 : M.mg "bool" = none) :
    FnOk M.P M.w M.K M.mg M.base (L2N.CX M.P M.w) (k + 1) f fd nIsFrom (liftSp M.K spIsFrom) := by
  refine fn_body (N := nIsFrom) (vn := nIsFrom) (gl := ["isinstance", "int", "bool"]) F sc_isfrom (by decide +kernel) (fun ds O Φ Ψ h => ?_) fun X B ds O Φ Ψ bd h => ?_
  · obtain ⟨_, _, _, _, rfl, _⟩ := h
    rfl
  obtain ⟨d, t, lo, hi, rfl, ty, q⟩ := h
  have C := bd.C
  change WSs _ _ [some _, some _, some _] _ _ _
  refine wss_one (ws_ret (we_pv (d := .bl (isFromD d lo hi)) ?_ q))
  cases ty with
  | int i => exact (pv_and (ca := true) (cb := decide (lo ≤ i) && decide (i ≤ hi)) (by exists "ev") fun _ => PEv.to (pv_and (ca := true) (cb := decide (lo ≤ i) && decide (i ≤ hi)) (by exact PEv.to (pv_not (ca := false) (by exists "ev")) rfl) fun _ => pv_one (by exists "ev")) rfl).to rfl
  | bl b => exact (pv_and (ca := true) (cb := false) (by exists "ev") fun _ => PEv.to (pv_and (ca := false) (cb := false) (by exact PEv.to (pv_not (ca := true) (by exists "ev")) rfl) fun h => by cases h) rfl).to rfl
  | _ => exact (pv_and (ca := false) (cb := false) (by exists "ev") fun h => by cases h).to rfl
def PosE (e : Ev) : Prop := 0 ≤ e.2.1 ∧ e.2.1 ≤ 10000 ∧ 1 ≤ e.2.2 ∧ e.2.2 ≤ 1000000
def OrdEv (log : List Ev) : Prop := ∀ p ∈ log.zip (log.drop 1), p.1.2.1 ≤ p.2.2.1
/-- a log that is right -/
structure OkLog (log : List Ev) : Prop where
  ev : ∀ e ∈ log, PosE e
  ord : OrdEv log
  len : log.length ≤ 30
def spIsEvent : DSp := fun ds O Φ _ => ∃ e : Ev, ds = [eEv e] ∧ PosE e ∧ Φ (.bl true) O
theorem sc_isevent : FnScope ["value"] ["value"] (defScope (topS 21)) := ⟨rfl, rfl, rfl, by decide +kernel, rfl, by decide +kernel, by decide +kernel⟩
theorem ok_isevent {M : Mach} {f : Addr} {fd : FuncData} {k : Nat} (F : Fun M.K "is_event" "is_event" (topS 21) f fd) (h1 : M.mg "isinstance" = none) (h2 : M.mg "tuple" = none) (h3 : M.mg "str" = none) (h4 : M.mg "len" = none) (h5 : ∃ t, M.mg "LAST_TIME" = some (.int 10000 t)) (h6 : ∃ t, M.mg "LARGEST" = some (.int 1000000 t)) (gi : GFn M "is_from" k spIsFrom) :
    FnOk M.P M.w M.K M.mg M.base (L2N.CX M.P M.w) (k + 1) f fd ["value"] (liftSp M.K spIsEvent) := by
  refine fn_body (N := ["value"]) (vn := ["value"]) (gl := ["isinstance", "tuple", "str", "len", "LAST_TIME", "LARGEST", "is_from"]) F sc_isevent (by decide +kernel) (fun ds O Φ Ψ h => ?_) fun X B ds O Φ Ψ bd h => ?_
  · obtain ⟨_, rfl, _⟩ := h
    rfl
  obtain ⟨⟨kd, t, n⟩, rfl, ⟨p1, p2, p3, p4⟩, q⟩ := h
  have C := bd.C
  change WSs _ _ [some _] _ _ _
  refine wss_cons (ws_if (wt_pv (PWv.t (pwv_or (by exists "et") fun _ => pwv_or (by exists "et") fun _ => pwv_or1 (by exists "et"))) (if_f (by rfl) ?_)))
  refine wss_nil ?_
  exists "nx"
  refine wss_one (ws_ret (we_pv (d := .bl true) ?_ q))
  refine PEv.to (pv_and (ca := true) (cb := true) ?_ fun _ => PEv.to (pv_and (ca := true) (cb := true) ?_ fun _ => pv_one ?_) rfl) rfl
  · exact (pv_in (by exists "ev") (by exists "ev") .tup rfl rfl).to (by cases kd <;> rfl)
  · exact (pv_call C gi bd.r (by decide +kernel) (by exists "ea") fun Φ Ψ z => ⟨_, _, _, _, rfl, .int _, z⟩).to (by show D.bl (decide (0 ≤ t) && decide (t ≤ 10000)) = _; rw [decide_eq_true p1, decide_eq_true p2]; rfl)
  · exact (pv_call C gi bd.r (by decide +kernel) (by exists "ea") fun Φ Ψ z => ⟨_, _, _, _, rfl, .int _, z⟩).to (by show D.bl (decide (1 ≤ n) && decide (n ≤ 1000000)) = _; rw [decide_eq_true p3, decide_eq_true p4]; rfl)
abbrev nIsLog : List Str := ["value", "event", "one", "other"]
def spIsLog : DSp := fun ds O Φ _ => ∃ log : List Ev, ds = [.tup (log.map eEv)] ∧ OkLog log ∧ Φ (.bl true) O
theorem sc_islog : FnScope nIsLog ["value"] (defScope (topS 22)) := ⟨rfl, rfl, rfl, by decide +kernel, rfl, by decide +kernel, by decide +kernel⟩
theorem ok_islog {M : Mach} {f : Addr} {fd : FuncData} {k : Nat} (F : Fun M.K "is_log" "is_log" (topS 22) f fd) (h1 : M.mg "isinstance" = none) (h2 : M.mg "tuple" = none) (h3 : M.mg "all" = none) (h4 : M.mg "len" = none) (h5 : M.mg "zip" = none) (h6 : ∃ t, M.mg "MOST_EVENTS" = some (.int 30 t)) (gi : GFn M "is_event" k spIsEvent) :
    FnOk M.P M.w M.K M.mg M.base (L2N.CX M.P M.w) (k + 1) f fd ["value"] (liftSp M.K spIsLog) := by
  refine fn_body (N := nIsLog) (vn := ["value"]) (gl := ["isinstance", "tuple", "all", "len", "MOST_EVENTS", "zip"]) F sc_islog (by decide +kernel) (fun ds O Φ Ψ h => ?_) fun X B ds O Φ Ψ bd h => ?_
  · obtain ⟨_, rfl, _⟩ := h
    rfl
  obtain ⟨log, rfl, ok, q⟩ := h
  have C := bd.C
  have hlen := ok.len
  change WSs _ _ [some _, none, none, none] _ _ _
  refine wss_cons (ws_if (wt_pv (PWv.t (pwv_or (ca := false) (PTv.to (pt_notv (ca := true) (pt_ofv (by exists "ev"))) rfl) fun _ => pwv_or (ca := false) (PTv.to (pt_gt (by exists "ev") (by exists "ev")) (decide_eq_false (by rw [List.length_map]; omega))) fun _ => pwv_or1 (ca := false) (PTv.to (pt_notv (ca := true) (pt_ofv (PEv.to (pv_allLcA (own := [("event", 1)]) (f := fun _ => true) C h3 (by decide +kernel) (by decide +kernel) (wiv_tup (by exists "ev")) (fun p hp => (List.not_mem_nil hp).elim) (by omega) fun e he => ⟨fun X' B' b => ?_⟩) ?_))) rfl))) (if_f rfl ?_)))
  · have C' := b.C
    exists "wp"
    refine wg_name C' (by exists "sa") (by decide +kernel) (by decide) ⟨rfl, fun X2 b2 => wf_nil ⟨rfl, rfl⟩, fun _ X3 b3 => ?_⟩
    have C3 := b3.C
    exact pv_call C3 gi (b3.A ▸ bd.r) (by decide +kernel) (by exists "ea") fun Φ Ψ z => ⟨e, rfl, ok.ev e he, z⟩
  · rw [List.all_eq_true.mpr fun _ _ => rfl]
  · refine wss_nil ?_
    exists "nx"
    refine wss_one (ws_ret (we_pv (d := .bl true) ?_ q))
    have hz : zipD (log.map eEv) (cutD (log.map eEv) (some ((1 : Nat) : Int)) none) = (log.zip (log.drop 1)).map fun p => .tup [eEv p.1, eEv p.2] := by
      rw [cut_from, ← List.map_drop, zipD_map]
    refine PEv.to (pv_allLcA (own := [("one", 2), ("other", 3)]) (xs := log.zip (log.drop 1)) (enc := fun p => .tup [eEv p.1, eEv p.2]) (f := fun p => decide (p.1.2.1 ≤ p.2.2.1)) C h3 (by decide +kernel) (by decide +kernel) (hz ▸ wiv_zip C h5 (by decide +kernel) (by exists "ev") (pv_sliceT (by exists "ev") (.some pv_int) .none) (.inl ⟨rfl, rfl⟩)) (fun p hp => (List.not_mem_nil hp).elim) (by rw [List.length_zip]; omega) fun e he => ⟨fun X' B' b => ?_⟩) ?_
    · have C' := b.C
      exists "wp"
      refine wg_tup C' (wgs_cons (wg_name C' (by exists "sa") (by decide +kernel) (by decide) (wgs_cons (wg_name C' (by exists "sa") (by decide +kernel) (by decide) (wgs_nil ⟨rfl, fun X2 b2 => wf_nil ⟨rfl, rfl⟩, fun _ X3 b3 => ?_⟩)))))
      have C3 := b3.C
      exact pv_le (by exists "ev") (by exists "ev")
    · rw [List.all_eq_true.mpr fun p hp => decide_eq_true (ok.ord p hp)]
/-! ### what must hold -/
def spNeedLog : DSp := fun ds O Φ _ => ∃ log : List Ev, ds = [.tup (log.map eEv)] ∧ OkLog log ∧ Φ .non O
theorem sc_needlog : FnScope ["log"] ["log"] (defScope (topS 23)) := ⟨rfl, rfl, rfl, by decide +kernel, rfl, by decide +kernel, by decide +kernel⟩
theorem ok_needlog {M : Mach} {f : Addr} {fd : FuncData} {k : Nat} (F : Fun M.K "need_log" "need_log" (topS 23) f fd) (g : GFn M "is_log" k spIsLog) :
    FnOk M.P M.w M.K M.mg M.base (L2N.CX M.P M.w) (k + 1) f fd ["log"] (liftSp M.K spNeedLog) := by
  refine fn_body (N := ["log"]) (vn := ["log"]) (gl := ["is_log"]) F sc_needlog (by decide +kernel) (fun ds O Φ Ψ h => ?_) fun X B ds O Φ Ψ bd h => ?_
  · obtain ⟨_, rfl, _⟩ := h
    rfl
  obtain ⟨log, rfl, ok, q⟩ := h
  have C := bd.C
  change WSs _ _ [some _] _ _ _
  exact wss_one (ws_ifv (c := false) (PTv.to (pt_notv (ca := true) (pt_ofv (pv_call C g bd.r (by decide +kernel) (by exists "ea") fun Φ Ψ z => ⟨log, rfl, ok, z⟩))) rfl) (fun h => by cases h) fun _ => wss_nil q)
def spNeedLife : DSp := fun ds O Φ _ => ∃ life : Int, ds = [.int life] ∧ 1 ≤ life ∧ life ≤ 1000 ∧ Φ .non O
def spNeedMoment : DSp := fun ds O Φ _ => ∃ t : Int, ds = [.int t] ∧ 0 ≤ t ∧ t ≤ 12000 ∧ Φ .non O
theorem OkLog.pos {log : List Ev} (h : OkLog log) : PosEv log := fun e he => Int.lt_of_lt_of_le (by decide) (h.ev e he).2.2.1
def spRefusedAt : DSp := fun ds O Φ _ => ∃ (log : List Ev) (life : Int), ds = [.tup (log.map eEv), .int life] ∧ OkLog log ∧ Φ (eOpt (playF life 10000 log).2.2.2) O
theorem sc_refusedat : FnScope ["log", "life"] ["log", "life"] (defScope (topS 27)) := ⟨rfl, rfl, rfl, by decide +kernel, rfl, by decide +kernel, by decide +kernel⟩
theorem ok_refusedat {M : Mach} {f : Addr} {fd : FuncData} {k : Nat} (F : Fun M.K "refused_at" "refused_at" (topS 27) f fd) (g : GFn M "play" k spPlay) (h1 : ∃ t, M.mg "LAST_TIME" = some (.int 10000 t)) :
    FnOk M.P M.w M.K M.mg M.base (L2N.CX M.P M.w) (k + 1) f fd ["log", "life"] (liftSp M.K spRefusedAt) := by
  refine fn_body (N := ["log", "life"]) (vn := ["log", "life"]) (gl := ["play", "LAST_TIME"]) F sc_refusedat (by decide +kernel) (fun ds O Φ Ψ h => ?_) fun X B ds O Φ Ψ bd h => ?_
  · obtain ⟨_, _, rfl, _⟩ := h
    rfl
  obtain ⟨log, life, rfl, ok, q⟩ := h
  have C := bd.C
  have hl := ok.len
  change WSs _ _ [some _, some _] _ _ _
  exact wss_one (ws_ret (we_pv (pv_ix (pv_call' C g bd.r (by decide +kernel) (by exists "ea") fun Φ Ψ z => ⟨log, life, 10000, rfl, rfl, ok.pos, by omega, z⟩) pv_int .tup at3) q))
/-- a log that is not refused -/
structure Fine (log : List Ev) (life : Int) : Prop where
  ok : OkLog log
  l1 : 1 ≤ life
  l2 : life ≤ 1000
  no : (playF life 10000 log).2.2.2 = none
def spNeedPossible : DSp := fun ds O Φ _ => ∃ (log : List Ev) (life : Int), ds = [.tup (log.map eEv), .int life] ∧ Fine log life ∧ Φ .non O
abbrev nNeedP : List Str := ["log", "life", "index"]
def spNeedAsked : DSp := fun ds O Φ _ => ∃ (log : List Ev) (t life : Int), ds = [.tup (log.map eEv), .int t, .int life] ∧ Fine log life ∧ 0 ≤ t ∧ t ≤ 12000 ∧ Φ .non O
abbrev nNeedA : List Str := ["log", "time", "life"]/-! ### moments -/
def mergeS (acc : List (Int × Int)) (r : Int × Int) : List (Int × Int) := match acc.getLast? with
  | none => acc ++ [r]
  | some l => if l.1 = r.1 then acc.dropLast ++ [(r.1, l.2 + r.2)] else acc ++ [r]
def mergeF (rows : List (Int × Int)) : List (Int × Int) := rows.foldl mergeS []
theorem mergeS_len (acc : List (Int × Int)) (r : Int × Int) : (mergeS acc r).length ≤ acc.length + 1 := by
  unfold mergeS
  split
  · rw [List.length_append, List.length_singleton]; exact Nat.le_refl _
  · split
    · rw [List.length_append, List.length_singleton, List.length_dropLast]; omega
    · rw [List.length_append, List.length_singleton]; exact Nat.le_refl _
abbrev nMerged : List Str := ["rows", "found", "time", "amount"]
def spMerged : DSp := fun ds O Φ _ => ∃ rows : List (Int × Int), ds = [.lst (rows.map ePr)] ∧ O = [] ∧ rows.length ≤ 1000 ∧ Φ (.lst ((mergeF rows).map ePr)) []
theorem sh_prs (ls : List (Int × Int)) : SeqAt.shaped (.list (toPyL (ls.map ePr))) = true := shaped_map (f := ePr) fun x _ => ⟨rfl, Nat.le_of_ble_eq_true rfl⟩
def spGone : DSp := fun ds O Φ _ => ∃ (log : List Ev) (life t : Int), ds = [.tup (log.map eEv), .int life, .int t] ∧ OkLog log ∧ Φ (.int ((playF life t log).2.1.map fun l => l.2.1).sum) O
def spThere : DSp := fun ds O Φ _ => ∃ (log : List Ev) (life t : Int), ds = [.tup (log.map eEv), .int life, .int t] ∧ OkLog log ∧ Φ (.int (total (playF life t log).1)) O
theorem runF_len (life til : Int) : ∀ (log : List Ev) (i : Nat) (ls gs : List Lot) (ts : List Tk), (runF life til i log ls gs ts).1.length + (runF life til i log ls gs ts).2.1.length ≤ ls.length + gs.length + log.length := by
  intro log
  induction log with
  | nil => exact fun i ls gs ts => Nat.le_refl _
  | cons e r ih =>
    intro i ls gs ts
    have hL := lapseF_len life e.2.1 ls
    rw [runF]
    split
    · split
      · refine Nat.le_trans (ih _ _ _ _) ?_
        simp only [List.length_append, List.length_cons, List.length_nil]
        omega
      · split
        · simp only [List.length_append, List.length_cons]
          omega
        · refine Nat.le_trans (ih _ _ _ _) ?_
          have := takeF_len (lapseF life e.2.1 ls).1 e.2.2
          simp only [List.length_append, List.length_cons]
          omega
    · refine Nat.le_trans (ih _ _ _ _) ?_
      rw [List.length_cons]
      omega
theorem playF_len (life til : Int) (log : List Ev) : (playF life til log).1.length + (playF life til log).2.1.length ≤ log.length := by
  have h := runF_len life til log 0 [] [] []
  unfold playF endF
  generalize runF life til 0 log [] [] [] = r at h
  split
  · simpa using h
  · have hL := lapseF_len life til r.1
    simp only [List.length_append]
    simp only [List.length_nil] at h
    omega
theorem sc_balanceof : FnScope ["log", "life", "time", "lot"] ["log", "life", "time"] (defScope (topS 29)) := ⟨rfl, rfl, rfl, by decide +kernel, rfl, by decide +kernel, by decide +kernel⟩
theorem ok_balanceof {M : Mach} {f : Addr} {fd : FuncData} {k : Nat} (F : Fun M.K "balance_of" "balance_of" (topS 29) f fd) (h1 : M.mg "sum" = none) (g : GFn M "play" k spPlay) :
    FnOk M.P M.w M.K M.mg M.base (L2N.CX M.P M.w) (k + 1) f fd ["log", "life", "time"] (liftSp M.K spThere) := by
  refine fn_body (N := ["log", "life", "time", "lot"]) (vn := ["log", "life", "time"]) (gl := ["sum", "play"]) F sc_balanceof (by decide +kernel) (fun ds O Φ Ψ h => ?_) fun X B ds O Φ Ψ bd h => ?_
  · obtain ⟨_, _, _, rfl, _⟩ := h
    rfl
  obtain ⟨log, life, t, rfl, ok, q⟩ := h
  have C := bd.C
  have hl := ok.len
  have hp := playF_len life t log
  change WSs _ _ [some _, some _, some _, none] _ _ _
  refine wss_one (ws_ret (we_pv (pv_sumLcA (own := [("lot", 3)]) (xs := (playF life t log).1) (enc := eLot) (f := fun l : Lot => l.2.1) C h1 (by decide +kernel) (by decide +kernel) (wiv_lst (pv_ix (pv_call' C g bd.r (by decide +kernel) (by exists "ea") fun Φ Ψ z => ⟨log, life, t, rfl, rfl, ok.pos, by omega, z⟩) pv_int .tup at0)) (fun p hp => (List.not_mem_nil hp).elim) (by omega) fun l hl => ⟨fun X' B' b => ?_⟩) q))
  have C' := b.C
  exists "wp"
  refine wg_name C' (by exists "sa") (by decide +kernel) (by decide) ⟨rfl, fun X2 b2 => wf_nil ⟨rfl, rfl⟩, fun _ X3 b3 => ?_⟩
  have C3 := b3.C
  exists "ev"
def lapsesF (log : List Ev) (life : Int) : List (Int × Int) := mergeF ((playF life 12000 log).2.1.map fun l : Lot => (l.1, l.2.1))
def spLapses : DSp := fun ds O Φ _ => ∃ (log : List Ev) (life : Int), ds = [.tup (log.map eEv), .int life] ∧ OkLog log ∧ Φ (.lst ((lapsesF log life).map ePr)) O
def spApi_lapsed : DSp := fun ds O Φ _ => ∃ (log : List Ev) (t life : Int), ds = [.tup (log.map eEv), .int t, .int life] ∧ Fine log life ∧ 0 ≤ t ∧ t ≤ 12000 ∧ Φ (.int ((playF life t log).2.1.map fun l => l.2.1).sum) O
def spApi_balance : DSp := fun ds O Φ _ => ∃ (log : List Ev) (t life : Int), ds = [.tup (log.map eEv), .int t, .int life] ∧ Fine log life ∧ 0 ≤ t ∧ t ≤ 12000 ∧ Φ (.int (total (playF life t log).1)) O
def worstF (log : List Ev) (t life : Int) : Option Int := (((lapsesF log life).filter fun r => decide (r.1 ≤ t)).getLast?).map fun r => r.1
def eOI : Option Int → D
  | none => .non
  | some i => .int i
def spWorst : DSp := fun ds O Φ _ => ∃ (log : List Ev) (t life : Int), ds = [.tup (log.map eEv), .int t, .int life] ∧ Fine log life ∧ 0 ≤ t ∧ t ≤ 12000 ∧ Φ (eOI (worstF log t life)) O
abbrev nWorst : List Str := ["log", "time", "life", "rows", "row"]
theorem mergeF_len (rows : List (Int × Int)) : (mergeF rows).length ≤ rows.length := by
  suffices h : ∀ (rows acc : List (Int × Int)), (rows.foldl mergeS acc).length ≤ acc.length + rows.length by
    have z := h rows []
    rw [List.length_nil, Nat.zero_add] at z
    exact z
  intro rows
  induction rows with
  | nil => exact fun acc => Nat.le_refl _
  | cons r t ih =>
    intro acc
    have h1 := ih (mergeS acc r)
    have h2 := mergeS_len acc r
    rw [List.foldl_cons, List.length_cons]
    omega/-! ### chance -/
/-- a deck that has turned at most n times -/
inductive Dk (n : Int) : List D → Prop
  | mk {w s c : Int} (hw : 0 ≤ w) (hs : 0 ≤ s) (hs2 : s < 2147483648) (hc : 0 ≤ c) (hn : c ≤ n) : Dk n [.int w, .int s, .int c]
theorem Dk.mono {n m : Int} {ds : List D} (h : Dk n ds) (l : n ≤ m) : Dk m ds := by
  cases h with
  | mk hw hs hs2 hc hn => exact .mk hw hs hs2 hc (Int.le_trans hn l)
def spDeck : DSp := fun ds O Φ _ => ∃ c t : Int, ds = [.int c, .int t] ∧ O = [] ∧ 0 ≤ t ∧ ∀ p xs, Dk t xs → Φ (.obj p) [(p, .lst xs)]
theorem sc_deck : FnScope ["_law_cell", "_law_turn"] ["_law_cell", "_law_turn"] (defScope (topS 38)) := ⟨rfl, rfl, rfl, by decide +kernel, rfl, by decide +kernel, by decide +kernel⟩
theorem ok_deck {M : Mach} {f : Addr} {fd : FuncData} {k : Nat} (F : Fun M.K "_law_deck" "_law_deck" (topS 38) f fd) :
    FnOk M.P M.w M.K M.mg M.base (L2N.CX M.P M.w) (k + 1) f fd ["_law_cell", "_law_turn"] (liftSp M.K spDeck) := by
  refine fn_body (N := ["_law_cell", "_law_turn"]) (vn := ["_law_cell", "_law_turn"]) (gl := []) F sc_deck (by decide +kernel) (fun ds O Φ Ψ h => ?_) fun X B ds O Φ Ψ bd h => ?_
  · obtain ⟨_, _, rfl, _⟩ := h
    rfl
  obtain ⟨c, t, rfl, rfl, ht, q⟩ := h
  have C := bd.C
  have m1 : 0 ≤ c % 2147483579 := Int.emod_nonneg _ (by decide)
  have m2 : c % 2147483579 < 2147483579 := Int.emod_lt_of_pos _ (by decide)
  change WSs _ _ [some _, some _] _ _ _
  refine wss_cons (ws_if (wt_pv (by exists "et") (if_d (fun hq => ?_) (fun hq => ?_))))
  · refine wss_one (ws_ret (we_own (wn_pv (pn_lst (by exists "ea")) fun p => q p _ (.mk ?_ m1 (by omega) ht (Int.le_refl _)))))
    have hq' : (1000000000000000000 : Int) ≤ c := hq
    show 0 ≤ c - 1000000000000000000
    omega
  · refine wss_nil ?_
    exists "nx"
    exact wss_one (ws_ret (we_own (wn_pv (pn_lst (by exists "ea")) fun p => q p _ (.mk (Int.le_refl 0) m1 (by omega) ht (Int.le_refl _)))))
abbrev nPick : List Str := ["_law_deck_here", "_law_limit", "_law_found", "_law_number"]
def spPick : DSp := fun ds O Φ _ => ∃ (a : Addr) (xs : List D) (n lim : Int), ds = [.obj a, .int lim] ∧ O = [(a, .lst xs)] ∧ Dk n xs ∧ n < 1000000 ∧ 0 < lim ∧ lim < 1073741824 ∧ ∀ r ys, 0 ≤ r → r < lim → Dk (n + 1) ys → Φ (.int r) [(a, .lst ys)]
theorem sc_pick : FnScope nPick ["_law_deck_here", "_law_limit"] (defScope (topS 39)) := ⟨rfl, rfl, rfl, by decide +kernel, rfl, by decide +kernel, by decide +kernel⟩
theorem ok_pick {M : Mach} {f : Addr} {fd : FuncData} {k : Nat} (F : Fun M.K "_law_pick" "_law_pick" (topS 39) f fd) :
    FnOk M.P M.w M.K M.mg M.base (L2N.CX M.P M.w) (k + 1) f fd ["_law_deck_here", "_law_limit"] (liftSp M.K spPick) := by
  refine fn_body (N := nPick) (vn := nPick) (gl := []) F sc_pick (by decide +kernel) (fun ds O Φ Ψ h => ?_) fun X B ds O Φ Ψ bd h => ?_
  · obtain ⟨_, _, _, _, rfl, _⟩ := h
    rfl
  obtain ⟨a, xs, n, lim, rfl, rfl, dk, hn, l1, l2, q⟩ := h
  cases dk with
  | @mk w s c hw hs hs2 hc hcn =>
  have C := bd.C
  have cd : CDiv w lim := ⟨l1, l2⟩
  have mm : ∀ x : Int, 0 ≤ x % lim ∧ x % lim < lim := fun x => ⟨Int.emod_nonneg _ (by omega), Int.emod_lt_of_pos _ l1⟩
  change WSs _ _ [some _, some _, none, none] _ _ _
  refine wss_cons (ws_if (wt_pv (by exists "et") (if_d (fun hq => ?_) (fun hq => ?_))))
  · refine wss_cons (ws_set C (by exists "sa") (by decide +kernel) (we_pv (by exists "ev") ?_))
    exists "nx"
    refine wss_cons (ws_asg (vs := fun _ => True) (we_pv (by exists "ev") (wg_sub (we_pv (by exists "ev") ⟨_, rfl, we_pv pv_int ⟨0, 0, _, _, rfl, (by exists "mem"), ix0, (by exists "os"), ?_⟩⟩))))
    exists "nx"
    refine wss_one (ws_ret (we_pv (by exists "ev") ?_))
    exact q _ _ (mm _).1 (mm _).2 (.mk (Int.ediv_nonneg hw (by omega)) hs hs2 hc (by omega))
  · refine wss_nil ?_
    exists "nx"
    refine wss_cons (ws_asg (vs := fun _ => True) (we_pv (by exists "ev") (wg_sub (we_pv (by exists "ev") ⟨_, rfl, we_pv pv_int ⟨2, 2, _, _, rfl, (by exists "mem"), ix2, (by exists "os"), ?_⟩⟩))))
    exists "nx"
    have c1 : CPow (s + 15485867 * (c + 1)) 5 := ⟨by decide, by decide, by omega⟩
    change WSs _ _ _ [(a, .lst [.int w, .int s, .int (c + 1)])] _ _
    refine wss_cons (ws_set C (by exists "sa") (by decide +kernel) (we_pv (by exists "ev") ?_))
    exists "nx"
    generalize hN : (s + 15485867 * (c + 1)) ^ (5 : Int).toNat % 2147483647 = N
    have n1 : 0 ≤ N := by rw [← hN]; exact Int.emod_nonneg _ (by decide)
    have n2 : N < 2147483647 := by rw [← hN]; exact Int.emod_lt_of_pos _ (by decide)
    have c2 : CPow (N + 7919 * (c + 1)) 3 := ⟨by decide, by decide, by omega⟩
    refine wss_cons (ws_set C (by exists "sa") (by decide +kernel) (we_pv (by exists "ev") ?_))
    exists "nx"
    refine wss_cons (ws_if (wt_pv (by exists "et") (if_d (fun hp => ?_) (fun hp => ?_))))
    · refine wss_one (ws_ret (we_pv (by exists "ev") ?_))
      exact q _ _ (mm _).1 (mm _).2 (.mk hw hs hs2 (by omega) (by omega))
    · refine wss_nil ?_
      exists "nx"
      refine wss_one (ws_ret (we_pv (by exists "ev") ?_))
      exact q _ _ (mm _).1 (mm _).2 (.mk hw hs hs2 (by omega) (by omega))
/-! ### one of some -/
section
variable {M : Mach} {X : Cx} {N : List Str} {sc : Scope} {vb lb gb : Str → Bool} {B : Bs} {G : Sl} {O Ob : Own} {e b : Expr} {pos p : Pos} {k : Nat} {a : Addr} {xs : List D} {n lim : Int} {Φ : D → Own → Prop}
theorem we_pick (C : Cxt M X N sc vb lb gb) (g : GFn M "_law_pick" k spPick) (hr : Room k X.A) (hg : gb "_law_pick" = true) (ha : PAv X B G ((a, .lst xs) :: Ob) [e, b] [.obj a, .int lim]) (dk : Dk n xs) (hn : n < 1000000) (l1 : 0 < lim) (l2 : lim < 1073741824)
    (q : ∀ r ys, 0 ≤ r → r < lim → Dk (n + 1) ys → Φ (.int r) ((a, .lst ys) :: Ob)) (he : starEach [e, b] X.env = (false, eval e X.env) :: starEach [b] X.env := by rfl) (hpl : (backTo pos (starEach [b] X.env)).any (·.1) = false := by rfl) : WE X B G ((a, .lst xs) :: Ob) (.Call (.Name "_law_pick" p) [e, b] [] pos) Φ :=
  we_call C g hr takes_no hg (wa_pv ha ⟨[(a, .lst xs)], Ob, List.Perm.refl _, a, xs, n, lim, rfl, rfl, dk, hn, l1, l2, fun r ys h1 h2 h3 => q r ys h1 h2 h3⟩) he hpl
end
def spOne : DSp := fun ds O Φ _ => ∃ (a : Addr) (xs ys : List D) (n : Int), ds = [.obj a, .lst ys] ∧ O = [(a, .lst xs)] ∧ Dk n xs ∧ n < 1000000 ∧ ys ≠ [] ∧ ys.length ≤ 1000 ∧ ∀ y zs, y ∈ ys → Dk (n + 1) zs → Φ y [(a, .lst zs)]
theorem sc_one : FnScope ["_law_deck_here", "_law_some"] ["_law_deck_here", "_law_some"] (defScope (topS 42)) := ⟨rfl, rfl, rfl, by decide +kernel, rfl, by decide +kernel, by decide +kernel⟩
theorem ok_one {M : Mach} {f : Addr} {fd : FuncData} {k : Nat} (F : Fun M.K "_law_one" "_law_one" (topS 42) f fd) (hl : M.mg "len" = none) (g : GFn M "_law_pick" k spPick) :
    FnOk M.P M.w M.K M.mg M.base (L2N.CX M.P M.w) (k + 1) f fd ["_law_deck_here", "_law_some"] (liftSp M.K spOne) := by
  refine fn_body (N := ["_law_deck_here", "_law_some"]) (vn := ["_law_deck_here", "_law_some"]) (gl := ["_law_pick", "len"]) F sc_one (by decide +kernel) (fun ds O Φ Ψ h => ?_) fun X B ds O Φ Ψ bd h => ?_
  · obtain ⟨_, _, _, _, rfl, _⟩ := h
    rfl
  obtain ⟨a, xs, ys, n, rfl, rfl, dk, hn, hne, hlen, q⟩ := h
  have C := bd.C
  have h0 : 0 < ys.length := List.length_pos_iff.mpr hne
  change WSs _ _ [some _, some _] _ _ _
  refine wss_one (ws_ret (we_ix (we_pv (by exists "ev") (we_pick C g bd.r (by decide +kernel) (by exists "ea") dk hn (by omega) (by omega) fun r zs r1 r2 dk' => ?_))))
  obtain ⟨j, rfl⟩ := Int.eq_ofNat_of_zero_le r1
  have hj : j < ys.length := by omega
  exact ⟨ys, _, ys[j], .lst, rfl, atN (List.getElem?_eq_getElem hj), q _ zs (List.getElem_mem hj) dk'⟩
section
variable {M : Mach} {X : Cx} {N : List Str} {sc : Scope} {vb lb gb : Str → Bool} {B : Bs} {G : Sl} {O Ob : Own} {e b : Expr} {pos p : Pos} {k : Nat} {Φ : D → Own → Prop}
theorem we_one (C : Cxt M X N sc vb lb gb) (g : GFn M "_law_one" k spOne) (hr : Room k X.A) (hg : gb "_law_one" = true) (h : WA X B G O [e, b] fun ds O1 => ∃ (a : Addr) (xs ys : List D) (n : Int) (Ob : Own), ds = [.obj a, .lst ys] ∧ O1 = (a, .lst xs) :: Ob ∧ Dk n xs ∧ n < 1000000 ∧ ys ≠ [] ∧ ys.length ≤ 1000 ∧ ∀ y zs, y ∈ ys → Dk (n + 1) zs → Φ y ((a, .lst zs) :: Ob))
    (he : starEach [e, b] X.env = (false, eval e X.env) :: starEach [b] X.env := by rfl) (hpl : (backTo pos (starEach [b] X.env)).any (·.1) = false := by rfl) : WE X B G O (.Call (.Name "_law_one" p) [e, b] [] pos) Φ :=
  we_call C g hr takes_no hg (h.mono fun ds O1 z => by
    obtain ⟨a, xs, ys, n, Ob, rfl, rfl, dk, hn, h1, h2, q⟩ := z
    exact ⟨[(a, .lst xs)], Ob, List.Perm.refl _, a, xs, ys, n, rfl, rfl, dk, hn, h1, h2, fun y zs m d => q y zs m d⟩) he hpl
end
/-! ### the life -/
def spSpan : DSp := fun ds O Φ _ => ∃ (a : Addr) (xs : List D) (n : Int), ds = [.obj a] ∧ O = [(a, .lst xs)] ∧ Dk n xs ∧ n < 900000 ∧ ∀ i zs, 1 ≤ i → i ≤ 1000 → Dk (n + 4) zs → Φ (.int i) [(a, .lst zs)]
theorem sc_span : FnScope ["_law_deck_here"] ["_law_deck_here"] (defScope (topS 50)) := ⟨rfl, rfl, rfl, by decide +kernel, rfl, by decide +kernel, by decide +kernel⟩
theorem ok_span {M : Mach} {f : Addr} {fd : FuncData} {k : Nat} (F : Fun M.K "_law_span" "_law_span" (topS 50) f fd) (g : GFn M "_law_pick" k spPick) (g2 : GFn M "_law_one" k spOne) :
    FnOk M.P M.w M.K M.mg M.base (L2N.CX M.P M.w) (k + 1) f fd ["_law_deck_here"] (liftSp M.K spSpan) := by
  refine fn_body (N := ["_law_deck_here"]) (vn := ["_law_deck_here"]) (gl := ["_law_pick", "_law_one"]) F sc_span (by decide +kernel) (fun ds O Φ Ψ h => ?_) fun X B ds O Φ Ψ bd h => ?_
  · obtain ⟨_, _, _, rfl, _⟩ := h
    rfl
  obtain ⟨a, xs, n, rfl, rfl, dk, hn, q⟩ := h
  have C := bd.C
  change WSs _ _ [some _] _ _ _
  refine wss_one (ws_ret (we_one C g2 bd.r (by decide +kernel) (wa_cons (we_pv (by exists "ev") (wa_cons (we_frz (wn_lst (wa_cons (we_pv pv_int ?_)))) )))))
  refine wa_cons (we_op op_add dop_I0 (we_pv pv_int (we_pick C g bd.r (by decide +kernel) (by exists "ea") dk (by omega) (by decide) (by decide) fun r1 ys p1 p2 d1 => ⟨_, _, rfl, rfl, trivial, ?_⟩)))
  refine wa_cons (we_op op_add dop_I0 (we_pv pv_int (we_pick C g bd.r (by decide +kernel) (by exists "ea") d1 (by omega) (by decide) (by decide) fun r2 ys p3 p4 d2 => ⟨_, _, rfl, rfl, trivial, ?_⟩)))
  refine wa_cons (we_op op_add dop_I0 (we_pv pv_int (we_pick C g bd.r (by decide +kernel) (by exists "ea") d2 (by omega) (by decide) (by decide) fun r3 ys p5 p6 d3 => ⟨_, _, rfl, rfl, trivial, ?_⟩)))
  refine wa_nil ⟨Nat.le_of_ble_eq_true rfl, wa_nil ⟨a, _, _, _, [], rfl, rfl, d3, by omega, (fun h => by cases h), Nat.le_of_ble_eq_true rfl, fun y zs hy dk' => ?_⟩⟩
  have d4 : Dk (n + 4) zs := dk'.mono (by omega)
  simp only [List.mem_cons, List.not_mem_nil, or_false] at hy
  rcases hy with rfl | rfl | rfl | rfl
  · exact q _ _ (by decide) (by decide) d4
  · exact q _ _ (by omega) (by omega) d4
  · exact q _ _ (by omega) (by omega) d4
  · exact q _ _ (by omega) (by omega) d4
/-! ### the oracle's lots -/
abbrev KEv := Str × Int × Int
abbrev eK (e : KEv) : D := .tup [.str e.1, .int e.2.1, .int e.2.2]
abbrev kOf (e : Ev) : KEv := (kW e.1, e.2)
abbrev Cl := Addr × Int × Int
abbrev cO (c : Cl) : D := .obj c.1
abbrev cS (c : Cl) : Addr × OV := (c.1, .lst [.int c.2.1, .int c.2.2])
def partK (k : Str) (m n : Int) : Int := if decide (k = "spend") = true then (if n < m then n else m) else 0
def spendK (k : Str) : List (Int × Int) → Int → List (Int × Int)
  | [], _ => []
  | l :: r, n => (l.1, l.2 - partK k l.2 n) :: spendK k r (n - partK k l.2 n)
def goneK (span t : Int) (ls : List (Int × Int)) : List (Int × Int) := (ls.filter fun l => decide (l.1 + span ≤ t) && decide (0 < l.2)).map fun l => (l.1 + span, l.2)
def keepK (span t : Int) (ls : List (Int × Int)) : List (Int × Int) := ls.filter fun l => decide (t < l.1 + span) && decide (0 < l.2)
abbrev LR := List (Int × Int) × List (Int × Int) × Option Nat
def oRun (span til : Int) : Nat → List KEv → List (Int × Int) → List (Int × Int) → LR
  | _, [], ls, gs => (ls.filter fun l => decide (0 < l.2), gs, none)
  | i, e :: r, ls, gs => if e.2.1 ≤ til then
      (if e.1 = "earn" then oRun span til (i + 1) r (spendK e.1 (keepK span e.2.1 ls ++ [(e.2.1, e.2.2)]) e.2.2) (gs ++ goneK span e.2.1 ls)
       else if ((keepK span e.2.1 ls).map fun l => l.2).sum < e.2.2 then (keepK span e.2.1 ls, gs ++ goneK span e.2.1 ls, some i)
       else oRun span til (i + 1) r (spendK e.1 (keepK span e.2.1 ls) e.2.2) (gs ++ goneK span e.2.1 ls))
    else oRun span til (i + 1) r ls gs
def lotsF (log : List Ev) (span til : Int) : LR := oRun span til 0 (log.map kOf ++ [(("stop" : Str), til, 0)]) [] []
theorem spendK_len (k : Str) : ∀ (ls : List (Int × Int)) (n : Int), (spendK k ls n).length = ls.length
  | [], _ => rfl
  | l :: r, n => by rw [spendK, List.length_cons, List.length_cons, spendK_len k r]
theorem spendK_app (k : Str) : ∀ (a b : List (Int × Int)) (n : Int), ∃ m, spendK k (a ++ b) n = spendK k a n ++ spendK k b m
  | [], b, n => ⟨n, rfl⟩
  | l :: r, b, n => by
    obtain ⟨m, e⟩ := spendK_app k r b (n - partK k l.2 n)
    exact ⟨m, by rw [List.cons_append, spendK, e, spendK, List.cons_append]⟩
abbrev nLots : List Str := ["_law_log", "_law_span_here", "_law_until", "_law_lots_here", "_law_gone_here", "_law_index", "_law_kind_so", "_law_time", "_law_amount", "_law_lot", "_law_part"]
/-- the answer: lots are lists of their own -/
def lotsAns (Φ : D → Own → Prop) (r : LR) : Prop := ∀ cells : List Cl, cells.map (fun c => c.2) = r.1 → Φ (.tup [.lst (cells.map cO), .lst (r.2.1.map ePr), eOpt r.2.2]) (cells.map cS)
def spLots : DSp := fun ds O Φ _ => ∃ (log : List Ev) (span til : Int), ds = [.tup (log.map eEv), .int span, .int til] ∧ O = [] ∧ log.length ≤ 100 ∧ lotsAns Φ (lotsF log span til)
theorem sc_lots : FnScope nLots ["_law_log", "_law_span_here", "_law_until"] (defScope (topS 45)) := ⟨rfl, rfl, rfl, by decide +kernel, rfl, by decide +kernel, by decide +kernel⟩
section
variable {M : Mach} {X : Cx} {N : List Str} {sc : Scope} {vb lb gb : Str → Bool} {B : Bs} {G : Sl} {O : Own} {e : Expr} {pos p : Pos}
theorem cell_mem {c : Cl} {cells : List Cl} {O : Own} (h : c ∈ cells) (hs : ∀ x ∈ cells.map cS, x ∈ O) : (c.1, OV.lst [.int c.2.1, .int c.2.2]) ∈ O := hs _ (List.mem_map_of_mem (f := cS) h)
end
theorem map_filter2 {α β : Type} (f : α → β) (p : β → Bool) (xs : List α) : (xs.filter fun x => p (f x)).map f = (xs.map f).filter p := by
  induction xs with
  | nil => rfl
  | cons x r ih =>
    rw [List.map_cons, List.filter_cons, List.filter_cons]
    cases p (f x) <;> simp [ih]
theorem ok_lots {M : Mach} {f : Addr} {fd : FuncData} {k : Nat} (F : Fun M.K "_law_lots" "_law_lots" (topS 45) f fd) (hen : M.mg "enumerate" = none) (hsum : M.mg "sum" = none) (hmin : M.mg "min" = none) :
    FnOk M.P M.w M.K M.mg M.base (L2N.CX M.P M.w) (k + 1) f fd ["_law_log", "_law_span_here", "_law_until"] (liftSp M.K spLots) := by
  refine fn_body (N := nLots) (vn := nLots) (gl := ["enumerate", "sum", "min"]) F sc_lots (by decide +kernel) (fun ds O Φ Ψ h => ?_) fun X B ds O Φ Ψ bd h => ?_
  · obtain ⟨_, _, _, rfl, _⟩ := h
    rfl
  obtain ⟨log, span, til, rfl, rfl, hlen, q⟩ := h
  have C := bd.C
  change WSs _ _ [some _, some _, some _, none, none, none, none, none, none, none, none] _ _ _
  refine wss_cons ?_
  exists "p2"
  refine wa_cons (we_own (wn_pv (pn_lst pa_nilv) fun a0 => wa_cons (we_pv (pv_frz (pn_lst pa_nilv)) (wa_nil ⟨_, _, rfl, ?_⟩))))
  exists "nx"
  refine wss_cons (ws_for C (wi_v (wiv_enumT (ds := (log.map kOf ++ [(("stop" : Str), til, 0)]).map eK) C hen (by decide +kernel) (PEv.to (pv_catT (xs := log.map eEv) (ys := [eK ("stop", til, 0)]) (by exists "ev") (by exists "ev") (by rw [List.length_map]; show log.length + 1 ≤ 1000000; omega)) (by rw [List.map_append, List.map_map]; rfl))) ⟨fun i G' O' => ∃ (L : Addr) (cells : List Cl) (gone : List (Int × Int)) (g5 g6 g7 g8 g9 g10 : Option D), G' = [some (.tup (log.map eEv)), some (.int span), some (.int til), some (.obj L), some (.lst (gone.map ePr)), g5, g6, g7, g8, g9, g10] ∧
    O' = (L, .lst (cells.map cO)) :: cells.map cS ∧ oRun span til i ((log.map kOf ++ [(("stop" : Str), til, 0)]).drop i) (cells.map fun c => c.2) gone = lotsF log span til ∧ cells.length ≤ i ∧ gone.length ≤ i * 200 ∧ i ≤ 200, ⟨a0, [], [], _, _, _, _, _, _, rfl, rfl, rfl, Nat.le_refl _, Nat.zero_le _, Nat.zero_le _⟩,
    fun _ _ _ _ _ p hp => (List.not_mem_nil hp).elim, ?_, ?_⟩))
  · rintro i d G' O' hd ⟨L, cells, gone, g5, g6, g7, g8, g9, g10, rfl, rfl, e1, h1, h2, _⟩
    obtain ⟨⟨kd, t, n⟩, hx, rfl, hdr⟩ := enum_at hd
    have hi := (List.getElem?_eq_some_iff.mp hx).1
    rw [List.length_append, List.length_map, List.length_singleton] at hi
    rw [hdr] at e1
    refine wg_tup C (wgs_cons (wg_name C (by exists "sa") (by decide +kernel) trivial (wgs_cons ?_)))
    exists "t3"
    refine wgs_nil (wss_one (ws_if (wt_pv (by exists "et") (if_d (fun hq => ?_) (fun hq => ?_)))))
    · rw [oRun, if_pos hq] at e1
      dsimp only at e1
      have hsub : ∀ x ∈ cells.map cS, x ∈ (L, OV.lst (cells.map cO)) :: cells.map cS := fun x hx => List.mem_cons_of_mem _ hx
      have hg : ((cells.filter fun c : Cl => decide (c.2.1 + span ≤ t) && decide (0 < c.2.2)).map fun c : Cl => ePr (c.2.1 + span, c.2.2)) = (goneK span t (cells.map fun c => c.2)).map ePr := by
        unfold goneK
        rw [← map_filter2 (fun c : Cl => c.2) (fun l => decide (l.1 + span ≤ t) && decide (0 < l.2)), List.map_map, List.map_map]
        rfl
      have hgl : (goneK span t (cells.map fun c => c.2)).length ≤ cells.length := by
        unfold goneK
        rw [List.length_map]
        exact Nat.le_trans (List.length_filter_le _ _) (by rw [List.length_map]; exact Nat.le_refl _)
      refine wss_cons (ws_set C (by exists "sa") (by decide +kernel) (we_pv (pv_frz (pn_cat (by exists "ev") (pv_frz (pn_lc (own := [("_law_lot", 9)]) (xs := cells) (enc := cO) (c := fun c : Cl => decide (c.2.1 + span ≤ t) && decide (0 < c.2.2)) (f := fun c : Cl => ePr (c.2.1 + span, c.2.2)) C (by decide +kernel) (wiv_own (by exists "ev") (by exists "mem")) (fun p hp => by rw [List.mem_singleton.mp hp]; exists "mem") (by omega) fun c hc => ⟨fun X' B' b => ?_⟩)) .lst .lst (by rw [hg, List.length_map, List.length_map]; omega))) ?_))
      · have C' := b.C
        have hm := cell_mem hc hsub
        exists "wp"
        refine wg_name C' (by exists "sa") (by decide +kernel) (by decide) ⟨rfl, fun X2 b2 => ?_, fun _ X3 b3 => ?_⟩
        · have C2 := b2.C
          exact wf_pv (by exists "et") ⟨rfl, rfl⟩
        · have C3 := b3.C
          exists "ev"
      exists "nx"
      rw [hg, ← List.map_append]
      generalize hgn : gone ++ goneK span t (cells.map fun c => c.2) = gn at e1
      have hgnl : gn.length ≤ (i + 1) * 200 := by rw [← hgn, List.length_append]; omega
      have hc1 : (cells.filter fun c : Cl => decide (t < c.2.1 + span) && decide (0 < c.2.2)).map (fun c => c.2) = keepK span t (cells.map fun c => c.2) := map_filter2 (fun c : Cl => c.2) (fun l => decide (t < l.1 + span) && decide (0 < l.2)) cells
      have hcl := List.length_filter_le (fun c : Cl => decide (t < c.2.1 + span) && decide (0 < c.2.2)) cells
      refine wss_cons (ws_less (ws_setLcP (own := [("_law_lot", 9)]) (xs := cells) (enc := cO) (c := fun c : Cl => decide (t < c.2.1 + span) && decide (0 < c.2.2)) (f := cO) C (by exists "sa") rfl (by decide +kernel) (wiv_own (by exists "ev") (by exists "mem")) (fun p hp => by rw [List.mem_singleton.mp hp]; exists "mem") (by omega) (fun c hc => ⟨fun X' B' b => ?_⟩) fun p => ⟨(p, _) :: (cells.filter fun c : Cl => decide (t < c.2.1 + span) && decide (0 < c.2.2)).map cS, (List.Sublist.cons _ ((List.filter_sublist).map _)).cons₂ _, ?_⟩))
      · have C' := b.C
        have hm := cell_mem hc hsub
        exists "wp"
        refine wg_name C' (by exists "sa") (by decide +kernel) (by decide) ⟨rfl, fun X2 b2 => ?_, fun _ X3 b3 => ?_⟩
        · have C2 := b2.C
          exact wf_pv (by exists "et") ⟨rfl, rfl⟩
        · have C3 := b3.C
          exists "ev"
      exists "nx"
      rw [← hc1] at e1
      generalize (cells.filter fun c : Cl => decide (t < c.2.1 + span) && decide (0 < c.2.2)) = c1 at e1 hcl ⊢
      have hsub1 : ∀ x ∈ c1.map cS, x ∈ (p, OV.lst (c1.map cO)) :: c1.map cS := fun x hx => List.mem_cons_of_mem _ hx
      refine wss_cut (Mid := fun G' O' => ∃ (c2 : List Cl), G' = [some (.tup (log.map eEv)), some (.int span), some (.int til), some (.obj p), some (.lst (gn.map ePr)), some (.int (i : Int)), some (.str kd), some (.int t), some (.int n), g9, g10] ∧
        O' = (p, .lst (c2.map cO)) :: c2.map cS ∧ oRun span til (i + 1) ((log.map kOf ++ [(("stop" : Str), til, 0)]).drop (i + 1)) (spendK kd (c2.map fun c => c.2) n) gn = lotsF log span til ∧ c2.length ≤ i + 1) (ws_if (wt_pv (by exists "et") (if_d (fun hk => ?_) (fun hk => ?_)))) ?_
      · rw [if_pos hk] at e1
        refine wss_one (ws_permd (ws_expr (we_append (by exists "ev") (by exists "mem") (we_own (wn_pv (pn_lst (by exists "ea")) fun r => ⟨_, _, (by exists "mem"), by rw [List.length_map]; omega, (by exists "os"), (p, .lst (c1.map cO ++ [.obj r])) :: (c1 ++ [(r, t, n)]).map cS, ?_, c1 ++ [(r, t, n)], rfl, ?_, ?_, ?_⟩)))))
        · rw [List.map_append]
          exact (List.Perm.swap _ _ _).trans ((List.perm_append_singleton _ _).symm.cons _)
        · rw [List.map_append (f := cO)]; rfl
        · rw [List.map_append]; exact e1
        · rw [List.length_append, List.length_singleton]; omega
      · rw [if_neg hk] at e1
        refine wss_one (ws_if (wt_pv (pt_lt (pv_sumLcA (own := [("_law_lot", 9)]) (xs := c1) (enc := cO) (f := fun c : Cl => c.2.2) C hsum (by decide +kernel) (by decide +kernel) (wiv_own (by exists "ev") (by exists "mem")) (fun p hp => by rw [List.mem_singleton.mp hp]; exists "mem") (by omega) fun c hc => ⟨fun X' B' b => ?_⟩) (by exists "ev")) (if_d (fun hr => ?_) (fun hr => ?_))))
        · have C' := b.C
          have hm := cell_mem hc hsub1
          exists "wp"
          refine wg_name C' (by exists "sa") (by decide +kernel) (by decide) ⟨rfl, fun X2 b2 => wf_nil ⟨rfl, rfl⟩, fun _ X3 b3 => ?_⟩
          have C3 := b3.C
          exists "ev"
        · rw [List.map_map] at e1
          have hr' : (c1.map ((fun l : Int × Int => l.2) ∘ fun c : Cl => c.2)).sum < n := hr
          rw [if_pos hr'] at e1
          refine wss_freeze (p := p) (by exists "od") (by exists "fz") ?_
          refine wss_one (ws_ret (we_pv (by exists "ev") ?_))
          rw [← e1] at q
          exact q c1 rfl
        · rw [List.map_map] at e1
          have hr' : ¬ (c1.map ((fun l : Int × Int => l.2) ∘ fun c : Cl => c.2)).sum < n := hr
          rw [if_neg hr'] at e1
          exact wss_nil ⟨c1, rfl, rfl, e1, by omega⟩
      · rintro G' O' ⟨c2, rfl, rfl, e2, h3⟩
        refine wss_one (ws_for C (wi_v (wiv_own (by exists "ev") (by exists "mem")) ⟨fun j G' O' => ∃ (pre post : List Cl) (amt : Int) (g9 g10 : Option D), pre.length = j ∧ post = c2.drop j ∧ G' = [some (.tup (log.map eEv)), some (.int span), some (.int til), some (.obj p), some (.lst (gn.map ePr)), some (.int (i : Int)), some (.str kd), some (.int t), some (.int amt), g9, g10] ∧
          O' = (p, .lst (c2.map cO)) :: (pre.map cS ++ post.map cS) ∧ pre.map (fun c => c.2) ++ spendK kd (post.map fun c => c.2) amt = spendK kd (c2.map fun c => c.2) n ∧ pre.map (fun c => c.1) ++ post.map (fun c => c.1) = c2.map (fun c => c.1), ⟨[], c2, n, _, _, rfl, rfl, rfl, rfl, rfl, rfl⟩, ?_, ?_, ?_⟩))
        · rintro j G' O' _ ⟨pre, post, amt, _, _, _, _, _, rfl, _⟩ p' hp
          rw [List.mem_singleton.mp hp]
          exists "mem"
        · rintro j d G' O' hd ⟨pre, post, amt, _, _, hpl, hpo, rfl, rfl, e3, e4⟩
          obtain ⟨c, hx2, rfl, hdr2⟩ := map_at hd
          rw [hdr2] at hpo
          subst hpo
          have hm : (c.1, OV.lst [.int c.2.1, .int c.2.2]) ∈ (p, OV.lst (c2.map cO)) :: (pre.map cS ++ (c :: c2.drop (j + 1)).map cS) := List.mem_cons_of_mem _ (List.mem_append_right _ List.mem_cons_self)
          have ho : OSet ((p, OV.lst (c2.map cO)) :: (pre.map cS ++ (c :: c2.drop (j + 1)).map cS)) c.1 (.lst [.int c.2.1, .int (c.2.2 - partK kd c.2.2 amt)]) ((p, OV.lst (c2.map cO)) :: (pre.map cS ++ cS (c.1, c.2.1, c.2.2 - partK kd c.2.2 amt) :: (c2.drop (j + 1)).map cS)) := .s (oset_at (f := cS))
          refine wg_name C (by exists "sa") (by decide +kernel) trivial ?_
          refine wss_cons (ws_set C (by exists "sa") (by decide +kernel) (we_pv (d := .int (partK kd c.2.2 amt)) (PEv.to (pv_if (by exists "et") (fun _ => by exists "ev") (fun _ => by exists "ev")) ?_) ?_))
          · unfold partK
            split <;> rfl
          exists "nx"
          refine wss_one (ws_asgN (vs := fun _ => True) (we_pv (by exists "ev") (wg_tup C (wgs_cons (wg_sub (we_pv (by exists "ev") ⟨_, rfl, we_pv pv_int ⟨1, 1, _, _, rfl, hm, ix1, ho, wgs_cons (wg_name C (by exists "sa") (by decide +kernel) trivial (wgs_nil ?_))⟩⟩))))))
          refine ⟨pre ++ [(c.1, c.2.1, c.2.2 - partK kd c.2.2 amt)], c2.drop (j + 1), amt - partK kd c.2.2 amt, _, _, by rw [List.length_append, List.length_singleton, hpl], rfl, rfl, ?_, ?_, ?_⟩
          · rw [List.map_append, List.append_assoc]; rfl
          · rw [← e3, List.map_append, List.append_assoc]; rfl
          · rw [← e4, List.map_append, List.append_assoc]; rfl
        · rintro G' O' ⟨pre, post, amt, g9, g10, hpl, hpo, rfl, rfl, e3, e4⟩
          rw [List.length_map] at hpl hpo
          rw [List.drop_length] at hpo
          subst hpo
          have e5 : pre.map (fun c => c.2) = spendK kd (c2.map fun c => c.2) n := by rw [← e3]; exact (List.append_nil _).symm
          have e6 : c2.map cO = pre.map cO := by
            have z : (c2.map fun c => c.1).map D.obj = (pre.map fun c => c.1).map D.obj := by rw [← e4]; exact congrArg _ (List.append_nil _)
            rw [List.map_map, List.map_map] at z
            exact z
          refine ⟨p, pre, gn, _, _, _, _, _, _, rfl, ?_, by rw [e5]; exact e2, by omega, hgnl, by omega⟩
          rw [e6]
          exact congrArg _ (List.append_nil _)
    · rw [oRun, if_neg hq] at e1
      exact wss_nil ⟨L, cells, gone, _, _, _, _, _, _, rfl, rfl, e1, by omega, by omega, by omega⟩
  · rintro G' O' ⟨L, cells, gone, g5, g6, g7, g8, g9, g10, rfl, rfl, e1, h1, h2, h3⟩
    rw [enumD_length, List.length_map, List.drop_length] at e1
    rw [oRun] at e1
    rw [← e1] at q
    have hsub : ∀ x ∈ cells.map cS, x ∈ (L, OV.lst (cells.map cO)) :: cells.map cS := fun x hx => List.mem_cons_of_mem _ hx
    have hc1 : (cells.filter fun c : Cl => decide (0 < c.2.2)).map (fun c => c.2) = (cells.map fun c => c.2).filter fun l => decide (0 < l.2) := map_filter2 (fun c : Cl => c.2) (fun l => decide (0 < l.2)) cells
    have hcl : cells.length ≤ 1000000 := by
      rw [enumD_length, List.length_map, List.length_append, List.length_map, List.length_singleton] at h1
      omega
    refine wss_one (ws_ret (we_less (we_pv (pv_tup (pa_consv (pv_frz (pn_lc (own := [("_law_lot", 9)]) (xs := cells) (enc := cO) (c := fun c : Cl => decide (0 < c.2.2)) (f := cO) C (by decide +kernel) (wiv_own (by exists "ev") (by exists "mem")) (fun p hp => by rw [List.mem_singleton.mp hp]; exists "mem") hcl fun c hc => ⟨fun X' B' b => ?_⟩)) (pa_consv (by exists "ev") (pa_consv pv_non pa_nilv)))) ⟨(cells.filter fun c : Cl => decide (0 < c.2.2)).map cS, List.Sublist.cons _ ((List.filter_sublist).map _), q _ hc1⟩)))
    have C' := b.C
    have hm := cell_mem hc hsub
    exists "wp"
    refine wg_name C' (by exists "sa") (by decide +kernel) (by decide) ⟨rfl, fun X2 b2 => ?_, fun _ X3 b3 => ?_⟩
    · have C2 := b2.C
      exact wf_pv (by exists "et") ⟨rfl, rfl⟩
    · have C3 := b3.C
      exists "ev"
/-! ### what the oracle counts -/
def sumK (ls : List (Int × Int)) : Int := (ls.map fun l => l.2).sum
def spThereK : DSp := fun ds O Φ _ => ∃ (log : List Ev) (span m : Int), ds = [.tup (log.map eEv), .int span, .int m] ∧ log.length ≤ 100 ∧ Φ (.int (sumK (lotsF log span m).1)) O
def spGoneK : DSp := fun ds O Φ _ => ∃ (log : List Ev) (span m : Int), ds = [.tup (log.map eEv), .int span, .int m] ∧ log.length ≤ 100 ∧ Φ (.int (sumK (lotsF log span m).2.1)) O
theorem oRun_len (span til : Int) : ∀ (log : List KEv) (i : Nat) (ls gs : List (Int × Int)), (oRun span til i log ls gs).1.length ≤ ls.length + log.length ∧ (oRun span til i log ls gs).2.1.length ≤ gs.length + log.length * (ls.length + log.length) := by
  intro log
  induction log with
  | nil => exact fun i ls gs => ⟨List.length_filter_le _ _, Nat.le_add_right _ _⟩
  | cons e r ih =>
    intro i ls gs
    have hk : (keepK span e.2.1 ls).length ≤ ls.length := List.length_filter_le _ _
    have hg : (goneK span e.2.1 ls).length ≤ ls.length := by unfold goneK; rw [List.length_map]; exact List.length_filter_le _ _
    have hm : ∀ a : Nat, a ≤ ls.length + 1 → r.length * (a + r.length) ≤ r.length * (ls.length + (r.length + 1)) := fun a ha => Nat.mul_le_mul_left _ (by omega)
    have hm2 : (r.length + 1) * (ls.length + (r.length + 1)) = r.length * (ls.length + (r.length + 1)) + (ls.length + (r.length + 1)) := Nat.succ_mul _ _
    rw [oRun, List.length_cons, hm2]
    split
    · split
      · have z := ih (i + 1) (spendK e.1 (keepK span e.2.1 ls ++ [(e.2.1, e.2.2)]) e.2.2) (gs ++ goneK span e.2.1 ls)
        rw [spendK_len, List.length_append, List.length_append, List.length_singleton] at z
        have := hm ((keepK span e.2.1 ls).length + 1) (by omega)
        exact ⟨by omega, by omega⟩
      · split
        · dsimp only
          rw [List.length_append]
          exact ⟨by omega, by omega⟩
        · have z := ih (i + 1) (spendK e.1 (keepK span e.2.1 ls) e.2.2) (gs ++ goneK span e.2.1 ls)
          rw [spendK_len, List.length_append] at z
          have := hm (keepK span e.2.1 ls).length (by omega)
          exact ⟨by omega, by omega⟩
    · have z := ih (i + 1) ls gs
      have := hm ls.length (by omega)
      exact ⟨by omega, by omega⟩
theorem lotsF_len (log : List Ev) (span til : Int) (h : log.length ≤ 100) : (lotsF log span til).1.length ≤ 101 ∧ (lotsF log span til).2.1.length ≤ 101 * 101 := by
  have z := oRun_len span til (log.map kOf ++ [(("stop" : Str), til, 0)]) 0 [] []
  unfold lotsF
  rw [List.length_append, List.length_map, List.length_singleton, List.length_nil, Nat.zero_add, Nat.zero_add] at z
  exact ⟨by omega, Nat.le_trans z.2 (Nat.mul_le_mul (by omega) (by omega))⟩
theorem sc_thereK : FnScope ["_law_log", "_law_span_here", "_law_moment", "_law_lot"] ["_law_log", "_law_span_here", "_law_moment"] (defScope (topS 46)) := ⟨rfl, rfl, rfl, by decide +kernel, rfl, by decide +kernel, by decide +kernel⟩
theorem ok_thereK {M : Mach} {f : Addr} {fd : FuncData} {k : Nat} (F : Fun M.K "_law_there" "_law_there" (topS 46) f fd) (h1 : M.mg "sum" = none) (g : GFn M "_law_lots" k spLots) :
    FnOk M.P M.w M.K M.mg M.base (L2N.CX M.P M.w) (k + 1) f fd ["_law_log", "_law_span_here", "_law_moment"] (liftSp M.K spThereK) := by
  refine fn_body (N := ["_law_log", "_law_span_here", "_law_moment", "_law_lot"]) (vn := ["_law_log", "_law_span_here", "_law_moment"]) (gl := ["sum", "_law_lots"]) F sc_thereK (by decide +kernel) (fun ds O Φ Ψ h => ?_) fun X B ds O Φ Ψ bd h => ?_
  · obtain ⟨_, _, _, rfl, _⟩ := h
    rfl
  obtain ⟨log, span, m, rfl, hlen, q⟩ := h
  have C := bd.C
  change WSs _ _ [some _, some _, some _, none] _ _ _
  refine wss_one (ws_ret (we_less (we_sum C h1 (by decide +kernel) (we_frz (wn_lc (own := [("_law_lot", 3)]) C (by decide +kernel) (lc_of (α := Cl) (enc := cO) (c := fun _ => true) (f := fun c => .int c.2.2) (wi_lst (we_ix (we_call C g bd.r takes_no (by decide +kernel) (wa_pv (by exists "ea") ⟨[], O, List.Perm.refl _, log, span, m, rfl, rfl, hlen, fun cells hc => we_pv pv_int ⟨_, 0, _, .tup, rfl, at0, _, rfl, cells, rfl, fun p hp => (List.not_mem_nil hp).elim, ?_, fun c hcm => ⟨fun X' B' b => ?_⟩, (cells.map fun c => c.2.2), ?_, O, List.sublist_append_right _ _, ?_⟩⟩))))))))))
  · have := (lotsF_len log span m hlen).1
    rw [← hc, List.length_map] at this
    omega
  · have C' := b.C
    have hm : (c.1, OV.lst [.int c.2.1, .int c.2.2]) ∈ cells.map cS ++ O := List.mem_append_left _ (List.mem_map_of_mem (f := cS) hcm)
    exists "wp"
    refine wg_name C' (by exists "sa") (by decide +kernel) (by decide) ⟨rfl, fun X2 b2 => wf_nil ⟨rfl, rfl⟩, fun _ X3 b3 => ?_⟩
    have C3 := b3.C
    exists "ev"
  · have e : ((cells.filter fun _ => true).map fun c : Cl => D.int c.2.2) = (cells.map fun c => c.2.2).map D.int := by
      rw [List.filter_eq_self.mpr (fun _ _ => rfl), List.map_map]; rfl
    rw [e]
    exact .lst
  · have e : (cells.map fun c => c.2.2).sum = sumK (lotsF log span m).1 := by
      unfold sumK
      rw [← hc, List.map_map]; rfl
    rw [e]
    exact q
theorem sc_goneK : FnScope ["_law_log", "_law_span_here", "_law_moment", "_law_row"] ["_law_log", "_law_span_here", "_law_moment"] (defScope (topS 47)) := ⟨rfl, rfl, rfl, by decide +kernel, rfl, by decide +kernel, by decide +kernel⟩
theorem ok_goneK {M : Mach} {f : Addr} {fd : FuncData} {k : Nat} (F : Fun M.K "_law_gone" "_law_gone" (topS 47) f fd) (h1 : M.mg "sum" = none) (g : GFn M "_law_lots" k spLots) :
    FnOk M.P M.w M.K M.mg M.base (L2N.CX M.P M.w) (k + 1) f fd ["_law_log", "_law_span_here", "_law_moment"] (liftSp M.K spGoneK) := by
  refine fn_body (N := ["_law_log", "_law_span_here", "_law_moment", "_law_row"]) (vn := ["_law_log", "_law_span_here", "_law_moment"]) (gl := ["sum", "_law_lots"]) F sc_goneK (by decide +kernel) (fun ds O Φ Ψ h => ?_) fun X B ds O Φ Ψ bd h => ?_
  · obtain ⟨_, _, _, rfl, _⟩ := h
    rfl
  obtain ⟨log, span, m, rfl, hlen, q⟩ := h
  have C := bd.C
  change WSs _ _ [some _, some _, some _, none] _ _ _
  refine wss_one (ws_ret (we_less (we_sum C h1 (by decide +kernel) (we_frz (wn_lc (own := [("_law_row", 3)]) C (by decide +kernel) (lc_of (α := Int × Int) (enc := ePr) (c := fun _ => true) (f := fun c => .int c.2) (wi_lst (we_ix (we_call C g bd.r takes_no (by decide +kernel) (wa_pv (by exists "ea") ⟨[], O, List.Perm.refl _, log, span, m, rfl, rfl, hlen, fun cells hc => we_pv pv_int ⟨_, 1, _, .tup, rfl, at1, _, rfl, (lotsF log span m).2.1, rfl, fun p hp => (List.not_mem_nil hp).elim, ?_, fun c hcm => ⟨fun X' B' b => ?_⟩, ((lotsF log span m).2.1.map fun c : Int × Int => c.2), ?_, O, List.sublist_append_right _ _, q⟩⟩))))))))))
  · have := (lotsF_len log span m hlen).2
    omega
  · have C' := b.C
    exists "wp"
    refine wg_name C' (by exists "sa") (by decide +kernel) (by decide) ⟨rfl, fun X2 b2 => wf_nil ⟨rfl, rfl⟩, fun _ X3 b3 => ?_⟩
    have C3 := b3.C
    exists "ev"
  · have e : (((lotsF log span m).2.1.filter fun _ => true).map fun c : Int × Int => D.int c.2) = ((lotsF log span m).2.1.map fun c => c.2).map D.int := by
      rw [List.filter_eq_self.mpr (fun _ _ => rfl), List.map_map]; rfl
    rw [e]
    exact .lst
/-! ### the oracle's worth of a moment -/
theorem kW_earn (b : Bool) : decide (kW b = "earn") = b := by cases b <;> decide
theorem kW_spend (b : Bool) : decide (kW b = "spend") = !b := by cases b <;> decide
def earnedBy (log : List Ev) (span m : Int) : Int := ((log.filter fun e : Ev => e.1 && decide (e.2.1 + span ≤ m)).map fun e : Ev => e.2.2).sum
def spentBefore (log : List Ev) (m : Int) : Int := ((log.filter fun e : Ev => !e.1 && decide (e.2.1 < m)).map fun e : Ev => e.2.2).sum
def valueF (log : List Ev) (span m : Int) : Int := earnedBy log span m - spentBefore log m
def spValue : DSp := fun ds O Φ _ => ∃ (log : List Ev) (span m : Int), ds = [.tup (log.map eEv), .int span, .int m] ∧ log.length ≤ 100 ∧ Φ (.int (valueF log span m)) O
abbrev nValue : List Str := ["_law_log", "_law_span_here", "_law_moment", "_law_earned", "_law_event"]
/-! ### the moments asked -/
def spMoments : DSp := fun ds O Φ _ => ∃ (a : Addr) (xs : List D) (n : Int) (log : List Ev) (span : Int), ds = [.obj a, .tup (log.map eEv), .int span] ∧ O = [(a, .lst xs)] ∧ Dk n xs ∧ n < 900000 ∧ OkLog log ∧ 1 ≤ span ∧ span ≤ 1000 ∧
  ∀ (ms : List Int) zs, ms.length ≤ 200 → (∀ m ∈ ms, 0 ≤ m ∧ m ≤ 12000) → Dk (n + 1) zs → Φ (.lst (ms.map D.int)) [(a, .lst zs)]
abbrev nMoments : List Str := ["_law_deck_here", "_law_log", "_law_span_here", "_law_found", "_law_event"]
theorem sc_moments : FnScope nMoments ["_law_deck_here", "_law_log", "_law_span_here"] (defScope (topS 51)) := ⟨rfl, rfl, rfl, by decide +kernel, rfl, by decide +kernel, by decide +kernel⟩
theorem ok_moments {M : Mach} {f : Addr} {fd : FuncData} {k : Nat} (F : Fun M.K "_law_moments" "_law_moments" (topS 51) f fd) (h1 : M.mg "max" = none) (g : GFn M "_law_pick" k spPick) :
    FnOk M.P M.w M.K M.mg M.base (L2N.CX M.P M.w) (k + 1) f fd ["_law_deck_here", "_law_log", "_law_span_here"] (liftSp M.K spMoments) := by
  refine fn_body (N := nMoments) (vn := nMoments) (gl := ["max", "_law_pick"]) F sc_moments (by decide +kernel) (fun ds O Φ Ψ h => ?_) fun X B ds O Φ Ψ bd h => ?_
  · obtain ⟨_, _, _, _, _, rfl, _⟩ := h
    rfl
  obtain ⟨a, xs, n, log, span, rfl, rfl, dk, hn, ok, s1, s2, q⟩ := h
  have C := bd.C
  have hlen := ok.len
  change WSs _ _ [some _, some _, some _, none, none] _ _ _
  refine wss_cons (ws_set C (by exists "sa") (by decide +kernel) (we_frz (wn_lst (wa_cons (we_pv (by exists "ev") (wa_cons (we_pv (by exists "ev") (wa_cons (we_pick C g bd.r (by decide +kernel) (by exists "ea") dk (by omega) (by decide) (by decide) fun r ys r1 r2 dk' => wa_nil ⟨Nat.le_of_ble_eq_true rfl, ?_⟩)))))))))
  exists "nx"
  refine wss_cons (ws_for C (wi_v (wiv_tup (by exists "ev")) ⟨fun i G' O' => ∃ (ms : List Int) (g4 : Option D), G' = [some (.obj a), some (.tup (log.map eEv)), some (.int span), some (.lst (ms.map D.int)), g4] ∧ O' = [(a, .lst ys)] ∧ ms.length = 3 + 4 * i ∧ i ≤ 30 ∧ ∀ m ∈ ms, 0 ≤ m ∧ m ≤ 12000, ⟨[0, 12000, r], _, rfl, rfl, rfl, Nat.zero_le _, fun m hm => ?_⟩,
    fun _ _ _ _ _ p hp => (List.not_mem_nil hp).elim, ?_, ?_⟩))
  · simp only [List.mem_cons, List.not_mem_nil, or_false] at hm
    rcases hm with rfl | rfl | rfl <;> omega
  · rintro i d G' O' hd ⟨ms, g4, rfl, rfl, hl, hi', hm⟩
    obtain ⟨⟨kd, t, v⟩, hx, rfl, hdr⟩ := map_at hd
    have hi := (List.getElem?_eq_some_iff.mp hx).1
    obtain ⟨e1, e2, _, _⟩ := ok.ev _ (List.mem_of_getElem? hx)
    dsimp only at e1 e2
    exists "t1"
    refine wss_one (ws_set C (by exists "sa") (by decide +kernel) (we_pv (pv_frz (pn_cat (by exists "ev") (by exists "ev") .lst .lst (by rw [List.length_map, hl]; show 3 + 4 * i + 4 ≤ 1000000; omega))) ?_))
    refine ⟨ms ++ [t, t + span, if t - 1 > 0 then t - 1 else 0, t + span - 1], some (eEv (kd, t, v)), ?_, rfl, by rw [List.length_append, hl]; show 3 + 4 * i + 4 = _; omega, by omega, fun m hm' => ?_⟩
    · rw [List.map_append]; rfl
    · rcases List.mem_append.mp hm' with h | h
      · exact hm m h
      · simp only [List.mem_cons, List.not_mem_nil, or_false] at h
        rcases h with rfl | rfl | rfl | rfl
        · omega
        · omega
        · split <;> omega
        · omega
  · rintro G' O' ⟨ms, g4, rfl, rfl, hl, hi', hm⟩
    refine wss_one (ws_ret (we_pv (by exists "ev") ?_))
    exact q ms ys (by omega) hm dk'
/-! ### the oracle's worst moment -/
def stepW (log : List Ev) (span til : Int) (b : Int × Option Int) (m : Int) : Int × Option Int := if m ≤ til ∧ b.1 < valueF log span m then (valueF log span m, some m) else b
/-- the moments at which something is due -/
def DueM (log : List Ev) (span : Int) (ms : List Int) : Prop := ms.Pairwise (· < ·) ∧ ∀ k : Int, k ∈ ms ↔ ∃ e ∈ log, e.1 = true ∧ e.2.1 + span = k
def spWorstK : DSp := fun ds O Φ _ => ∃ (log : List Ev) (span til : Int), ds = [.tup (log.map eEv), .int span, .int til] ∧ log.length ≤ 30 ∧
  ∀ ms, DueM log span ms → Φ (.tup [.int (ms.foldl (stepW log span til) (0, none)).1, eOI (ms.foldl (stepW log span til) (0, none)).2]) O
abbrev nWorstK : List Str := ["_law_log", "_law_span_here", "_law_until", "_law_best", "_law_moment", "_law_event"]/-! ### logs that the law makes -/
structure Gd (log : List Ev) (span time : Int) : Prop where
  ev : ∀ e ∈ log, PosE e ∧ e.2.1 ≤ time
  ord : OrdEv log
  no : (playF span 10000 log).2.2.2 = none
def goneBy (log : List Ev) (span u : Int) : Int := ((playF span u log).2.1.map fun l => l.2.1).sum
def earnedTo (log : List Ev) (u : Int) : Int := ((log.filter fun e : Ev => e.1 && decide (e.2.1 ≤ u)).map fun e : Ev => e.2.2).sum
def spentTo (log : List Ev) (u : Int) : Int := ((log.filter fun e : Ev => !e.1 && decide (e.2.1 ≤ u)).map fun e : Ev => e.2.2).sum
theorem Gd.fine {log : List Ev} {span t : Int} (h : Gd log span t) (l : log.length ≤ 30) (s1 : 1 ≤ span) (s2 : span ≤ 1000) : Fine log span := ⟨⟨fun e he => (h.ev e he).1, h.ord, l⟩, s1, s2, h.no⟩
/-! ### sums over a part of a list -/
def sumBy {α : Type} (f : α → Int) (p : α → Bool) (xs : List α) : Int := ((xs.filter p).map f).sum
section
variable {α : Type} {f : α → Int} {p q : α → Bool}
theorem sumBy_nil : sumBy f p [] = 0 := rfl
theorem sumBy_cons (x : α) (xs : List α) : sumBy f p (x :: xs) = (if p x = true then f x else 0) + sumBy f p xs := by
  unfold sumBy
  by_cases h : p x = true
  · rw [List.filter_cons_of_pos h, List.map_cons, List.sum_cons, if_pos h]
  · rw [List.filter_cons_of_neg h, if_neg h, Int.zero_add]
theorem sumBy_app (xs ys : List α) : sumBy f p (xs ++ ys) = sumBy f p xs + sumBy f p ys := by
  unfold sumBy
  rw [List.filter_append, List.map_append, List.sum_append]
theorem sumBy_congr {xs : List α} (h : ∀ x ∈ xs, p x = q x) : sumBy f p xs = sumBy f q xs := by
  unfold sumBy
  rw [List.filter_congr h]
theorem sumBy_split (p q : α → Bool) (xs : List α) : sumBy f p xs = sumBy f (fun x => p x && q x) xs + sumBy f (fun x => p x && !q x) xs := by
  induction xs with
  | nil => rfl
  | cons x xs ih =>
    rw [sumBy_cons, sumBy_cons, sumBy_cons, ih]
    cases p x <;> cases q x <;> simp <;> omega
theorem sumBy_nonneg {xs : List α} (h : ∀ x ∈ xs, 0 ≤ f x) : 0 ≤ sumBy f p xs := by
  induction xs with
  | nil => exact Int.le_refl _
  | cons x xs ih =>
    rw [sumBy_cons]
    have h1 := ih fun y hy => h y (List.mem_cons_of_mem _ hy)
    have h2 := h x List.mem_cons_self
    split <;> omega
theorem sumBy_none {xs : List α} (h : ∀ x ∈ xs, p x = false) : sumBy f p xs = 0 := by
  unfold sumBy
  rw [List.filter_eq_nil_iff.mpr fun x hx => by rw [h x hx]; decide]
  rfl
theorem sumBy_mono {xs : List α} (h : ∀ x ∈ xs, 0 ≤ f x) (k : ∀ x ∈ xs, p x = true → q x = true) : sumBy f p xs ≤ sumBy f q xs := by
  induction xs with
  | nil => exact Int.le_refl _
  | cons x xs ih =>
    rw [sumBy_cons, sumBy_cons]
    have h1 := ih (fun y hy => h y (List.mem_cons_of_mem _ hy)) fun y hy => k y (List.mem_cons_of_mem _ hy)
    have h2 := h x List.mem_cons_self
    have h3 := k x List.mem_cons_self
    by_cases a : p x = true
    · rw [if_pos a, if_pos (h3 a)]; omega
    · rw [if_neg a]; split <;> omega
theorem sumBy_filter (xs : List α) : sumBy f p (xs.filter q) = sumBy f (fun x => q x && p x) xs := by
  induction xs with
  | nil => rfl
  | cons x xs ih =>
    by_cases h : q x = true
    · rw [List.filter_cons_of_pos h, sumBy_cons, sumBy_cons, ih, h, Bool.true_and]
    · rw [List.filter_cons_of_neg h, sumBy_cons, ih, Bool.not_eq_true _ |>.mp h, Bool.false_and, if_neg Bool.false_ne_true, Int.zero_add]
theorem sumBy_map {β : Type} (g : β → α) (xs : List β) : sumBy f p (xs.map g) = sumBy (fun x => f (g x)) (fun x => p (g x)) xs := by
  induction xs with
  | nil => rfl
  | cons x xs ih => rw [List.map_cons, sumBy_cons, sumBy_cons, ih]
end
abbrev lam (l : Lot) : Int := l.2.1
abbrev eam (e : Ev) : Int := e.2.2
theorem total_sumBy (ls : List Lot) : total ls = sumBy lam (fun _ => true) ls := by
  unfold total sumBy
  rw [List.filter_eq_self.mpr fun _ _ => rfl]
/-! ### lots in order of their times -/
abbrev Asc (ls : List Lot) : Prop := ls.Pairwise fun a b => a.1 ≤ b.1
def rowOf (span : Int) (l : Lot) : Lot := (l.1 + span, l.2.1, l.2.2)
theorem lapseF_asc {span t : Int} {ls : List Lot} (h : Asc ls) : lapseF span t ls = (ls.filter fun l => decide (t < l.1 + span), (ls.filter fun l => decide (l.1 + span ≤ t)).map (rowOf span)) := by
  induction ls with
  | nil => rfl
  | cons l r ih =>
    obtain ⟨h1, h2⟩ := List.pairwise_cons.mp h
    rw [lapseF]
    by_cases c : l.1 + span ≤ t
    · rw [if_pos c, ih h2, List.filter_cons_of_neg (by simp; omega), List.filter_cons_of_pos (by simp; omega), List.map_cons]
      rfl
    · rw [if_neg c, List.filter_eq_self.mpr, List.filter_eq_nil_iff.mpr, List.map_nil]
      · intro x hx
        rcases List.mem_cons.mp hx with e | hx
        · subst e; simp; omega
        · have := h1 x hx; simp; omega
      · intro x hx
        rcases List.mem_cons.mp hx with e | hx
        · subst e; simp; omega
        · have := h1 x hx; simp; omega
theorem takeF_src {ls : List Lot} : ∀ {n : Int}, ∀ x ∈ (takeF ls n).1, ∃ l ∈ ls, l.1 = x.1 ∧ l.2.2 = x.2.2 := by
  induction ls with
  | nil => exact fun x h => (List.not_mem_nil h).elim
  | cons l r ih =>
    intro n x
    rw [takeF]
    split
    · split
      · intro h
        obtain ⟨y, h1, h2⟩ := ih x h
        exact ⟨y, List.mem_cons_of_mem _ h1, h2⟩
      · intro h
        rcases List.mem_cons.mp h with e | h
        · exact ⟨l, List.mem_cons_self, by rw [e], by rw [e]⟩
        · exact ⟨x, List.mem_cons_of_mem _ h, rfl, rfl⟩
    · exact fun h => ⟨x, h, rfl, rfl⟩
theorem takeF_asc {ls : List Lot} (h : Asc ls) : ∀ {n : Int}, Asc (takeF ls n).1 := by
  induction ls with
  | nil => exact h
  | cons l r ih =>
    obtain ⟨h1, h2⟩ := List.pairwise_cons.mp h
    intro n
    rw [takeF]
    split
    · split
      · exact ih h2
      · exact List.pairwise_cons.mpr ⟨h1, h2⟩
    · exact h
theorem takeF_total {ls : List Lot} (h : PosL ls) : ∀ {n : Int}, 0 ≤ n → n ≤ total ls → total (takeF ls n).1 = total ls - n := by
  induction ls with
  | nil => intro n h1 h2; rw [total_nil] at h2; rw [takeF, total_nil]; omega
  | cons l r ih =>
    intro n h1 h2
    have h3 := h l List.mem_cons_self
    rw [total_cons] at h2 ⊢
    rw [takeF]
    split
    · split
      · rw [ih h.tail (by omega) (by omega)]; omega
      · rw [total_cons]; show l.2.1 - n + total r = _; omega
    · rw [total_cons]; omega
def above (c : Int) (ls : List Lot) : Int := sumBy lam (fun l => decide (c < l.1)) ls
theorem above_cons (c : Int) (l : Lot) (r : List Lot) : above c (l :: r) = (if c < l.1 then l.2.1 else 0) + above c r := by
  unfold above
  rw [sumBy_cons]
  by_cases h : c < l.1
  · rw [if_pos (decide_eq_true h), if_pos h]
  · rw [if_neg (by simpa using h), if_neg h]
theorem takeF_above {ls : List Lot} (h : Asc ls) (p : PosL ls) (c : Int) : ∀ {n : Int}, 0 ≤ n → above c (takeF ls n).1 ≤ above c ls ∧ ((∃ l ∈ (takeF ls n).1, l.1 ≤ c) → above c (takeF ls n).1 = above c ls) := by
  induction ls with
  | nil => exact fun _ => ⟨Int.le_refl _, fun _ => rfl⟩
  | cons l r ih =>
    obtain ⟨h1, h2⟩ := List.pairwise_cons.mp h
    have h3 := p l List.mem_cons_self
    intro n hn
    rw [takeF]
    split
    · split
      · obtain ⟨i1, i2⟩ := ih h2 p.tail (n := n - l.2.1) (by omega)
        rw [above_cons]
        refine ⟨by dsimp only; split <;> omega, fun ⟨x, hx, hc⟩ => ?_⟩
        obtain ⟨y, y1, y2, _⟩ := takeF_src x hx
        have := h1 y y1
        rw [if_neg (by omega), Int.zero_add]
        exact i2 ⟨x, hx, hc⟩
      · rw [above_cons, above_cons]
        refine ⟨by dsimp only; split <;> omega, fun ⟨x, hx, hc⟩ => ?_⟩
        have z : l.1 ≤ c := by
          rcases List.mem_cons.mp hx with e | hx
          · rw [e] at hc; exact hc
          · exact Int.le_trans (h1 x hx) hc
        rw [if_neg (by dsimp only; omega), if_neg (by omega)]
    · exact ⟨Int.le_refl _, fun _ => rfl⟩
/-! ### what holds at a moment behind all events so far -/
def isE (e : Ev) : Bool := e.1
def isS (e : Ev) : Bool := !e.1
structure Inv (log : List Ev) (span T : Int) (ls gs : List Lot) : Prop where
  tot : total ls + total gs = sumBy eam isE log - sumBy eam isS log
  pos : PosL ls
  posg : PosL gs
  asc : Asc ls
  ascg : Asc gs
  rng : ∀ l ∈ ls, T < l.1 + span ∧ l.1 ≤ T
  gle : ∀ g ∈ gs, g.1 ≤ T
  evs : ∀ e ∈ log, e.2.1 ≤ T
  src : ∀ l ∈ ls, ∃ e ∈ log, e.1 = true ∧ e.2.1 = l.1
  srcg : ∀ g ∈ gs, ∃ e ∈ log, e.1 = true ∧ e.2.1 + span = g.1
  ab1 : ∀ c, above c ls ≤ sumBy eam (fun e => isE e && decide (c < e.2.1)) log
  ab2 : ∀ c, (∃ l ∈ ls, l.1 ≤ c) → above c ls = sumBy eam (fun e => isE e && decide (c < e.2.1)) log
  v1 : ∀ s, s ≤ T → valueF log span s ≤ sumBy lam (fun g => decide (g.1 ≤ s)) gs
  v2 : ∀ g ∈ gs, valueF log span g.1 = sumBy lam (fun x => decide (x.1 ≤ g.1)) gs
theorem valueF_sumBy (log : List Ev) (span m : Int) : valueF log span m = sumBy eam (fun e => isE e && decide (e.2.1 + span ≤ m)) log - sumBy eam (fun e => isS e && decide (e.2.1 < m)) log := rfl
theorem inv_nil (span T : Int) : Inv [] span T [] [] :=
  ⟨rfl, fun _ h => (List.not_mem_nil h).elim, fun _ h => (List.not_mem_nil h).elim, .nil, .nil, fun _ h => (List.not_mem_nil h).elim, fun _ h => (List.not_mem_nil h).elim, fun _ h => (List.not_mem_nil h).elim, fun _ h => (List.not_mem_nil h).elim, fun _ h => (List.not_mem_nil h).elim, fun _ => Int.le_refl _, fun _ _ => rfl, fun _ _ => Int.le_refl _, fun _ h => (List.not_mem_nil h).elim⟩
theorem Inv.later {log : List Ev} {span T T' : Int} {ls gs : List Lot} (h : Inv log span T ls gs) (hT : T ≤ T') : Inv log span T' (lapseF span T' ls).1 (gs ++ (lapseF span T' ls).2) := by
  have L := lapseF_asc (span := span) (t := T') h.asc
  rw [L]
  dsimp only
  have rows : ∀ g ∈ (ls.filter fun l => decide (l.1 + span ≤ T')).map (rowOf span), ∃ l ∈ ls, g = rowOf span l ∧ l.1 + span ≤ T' := fun g hg => by
    obtain ⟨l, hl, rfl⟩ := List.mem_map.mp hg
    obtain ⟨h1, h2⟩ := List.mem_filter.mp hl
    exact ⟨l, h1, rfl, by simpa using h2⟩
  have tots : total ls = total (ls.filter fun l => decide (T' < l.1 + span)) + total ((ls.filter fun l => decide (l.1 + span ≤ T')).map (rowOf span)) := by
    rw [total_sumBy, total_sumBy, total_sumBy, sumBy_map, sumBy_filter, sumBy_filter, sumBy_split _ (fun l : Lot => decide (T' < l.1 + span))]
    refine congr (congrArg _ ?_) ?_
    · exact sumBy_congr fun x _ => by simp
    · exact sumBy_congr fun x _ => by rw [Bool.true_and, Bool.and_true, ← decide_not, decide_eq_decide]; exact Int.not_lt
  have val : ∀ s, T < s → s ≤ T' → valueF log span s = total ls + total gs - sumBy eam (fun e => isE e && decide (s - span < e.2.1)) log := fun s h1 h2 => by
    rw [h.tot, valueF_sumBy, sumBy_split isE (fun e => decide (s - span < e.2.1))]
    have a : sumBy eam (fun e => isS e && decide (e.2.1 < s)) log = sumBy eam isS log := sumBy_congr fun e he => by
      have := h.evs e he
      rw [decide_eq_true (by omega), Bool.and_true]
    have b : sumBy eam (fun e => isE e && decide (e.2.1 + span ≤ s)) log = sumBy eam (fun e => isE e && !decide (s - span < e.2.1)) log := sumBy_congr fun e he => by
      rw [← decide_not]
      refine congrArg _ (decide_eq_decide.mpr ?_)
      omega
    rw [a, b]
    omega
  have upn : ∀ s, T < s → s ≤ T' → sumBy lam (fun g => decide (g.1 ≤ s)) (gs ++ (ls.filter fun l => decide (l.1 + span ≤ T')).map (rowOf span)) = total gs + (total ls - above (s - span) ls) := fun s h1 h2 => by
    rw [sumBy_app, sumBy_map, sumBy_filter, total_sumBy gs, total_sumBy ls, sumBy_split (fun _ => true) (fun l : Lot => decide (s - span < l.1)) ls]
    have a : sumBy lam (fun g => decide (g.1 ≤ s)) gs = sumBy lam (fun _ => true) gs := sumBy_congr fun g hg => decide_eq_true (by have := h.gle g hg; omega)
    have b : sumBy (fun x => lam (rowOf span x)) (fun l : Lot => decide (l.1 + span ≤ T') && decide ((rowOf span l).1 ≤ s)) ls = sumBy lam (fun l : Lot => true && !decide (s - span < l.1)) ls := by
      show sumBy lam _ ls = _
      refine sumBy_congr fun l _ => ?_
      rw [Bool.true_and, ← decide_not, ← Bool.decide_and]
      exact decide_eq_decide.mpr (by show _ ∧ l.1 + span ≤ s ↔ _; omega)
    have d : above (s - span) ls = sumBy lam (fun l : Lot => true && decide (s - span < l.1)) ls := sumBy_congr fun l _ => (Bool.true_and _).symm
    rw [a, b, d]
    omega
  have upo : ∀ s, s ≤ T → sumBy lam (fun g => decide (g.1 ≤ s)) (gs ++ (ls.filter fun l => decide (l.1 + span ≤ T')).map (rowOf span)) = sumBy lam (fun g => decide (g.1 ≤ s)) gs := fun s h1 => by
    rw [sumBy_app, sumBy_none (xs := List.map _ _), Int.add_zero]
    intro g hg
    obtain ⟨l, h2, rfl, _⟩ := rows g hg
    have := (h.rng l h2).1
    exact decide_eq_false (by show ¬ l.1 + span ≤ s; omega)
  refine ⟨?_, ?_, ?_, ?_, ?_, ?_, ?_, ?_, ?_, ?_, ?_, ?_, ?_, ?_⟩
  · have := h.tot
    have z : total (gs ++ (ls.filter fun l => decide (l.1 + span ≤ T')).map (rowOf span)) = total gs + total ((ls.filter fun l => decide (l.1 + span ≤ T')).map (rowOf span)) := by
      unfold total
      rw [List.map_append, List.sum_append]
    omega
  · exact fun l hl => h.pos l (List.mem_filter.mp hl).1
  · intro g hg
    rcases List.mem_append.mp hg with hg | hg
    · exact h.posg g hg
    · obtain ⟨l, h1, rfl, _⟩ := rows g hg
      exact h.pos l h1
  · exact h.asc.filter _
  · refine List.pairwise_append.mpr ⟨h.ascg, List.pairwise_map.mpr ((h.asc.filter _).imp fun {a b} z => by show a.1 + span ≤ b.1 + span; omega), fun a ha b hb => ?_⟩
    obtain ⟨l, h1, rfl, _⟩ := rows b hb
    have := (h.rng l h1).1
    have := h.gle a ha
    show a.1 ≤ l.1 + span
    omega
  · intro l hl
    obtain ⟨h1, h2⟩ := List.mem_filter.mp hl
    have := (h.rng l h1).2
    exact ⟨by simpa using h2, by omega⟩
  · intro g hg
    rcases List.mem_append.mp hg with hg | hg
    · have := h.gle g hg; omega
    · obtain ⟨l, h1, rfl, h2⟩ := rows g hg
      exact h2
  · intro e he
    have := h.evs e he
    omega
  · exact fun l hl => h.src l (List.mem_filter.mp hl).1
  · intro g hg
    rcases List.mem_append.mp hg with hg | hg
    · exact h.srcg g hg
    · obtain ⟨l, h1, rfl, _⟩ := rows g hg
      obtain ⟨e, e1, e2, e3⟩ := h.src l h1
      exact ⟨e, e1, e2, by show e.2.1 + span = l.1 + span; rw [e3]⟩
  · intro c
    refine Int.le_trans ?_ (h.ab1 c)
    unfold above
    rw [sumBy_filter]
    exact sumBy_mono (fun l hl => Int.le_of_lt (h.pos l hl)) fun l _ z => (Bool.and_eq_true _ _ ▸ z).2
  · rintro c ⟨l, hl, hc⟩
    obtain ⟨h1, h2⟩ := List.mem_filter.mp hl
    have h2 : T' < l.1 + span := by simpa using h2
    rw [← h.ab2 c ⟨l, h1, hc⟩]
    unfold above
    rw [sumBy_filter]
    refine sumBy_congr fun x _ => ?_
    rw [← Bool.decide_and]
    exact decide_eq_decide.mpr (by omega)
  · intro s hs
    by_cases c : s ≤ T
    · rw [upo s c]
      exact h.v1 s c
    · have c : T < s := Int.not_le.mp c
      rw [upn s c hs, val s c hs]
      have := h.ab1 (s - span)
      omega
  · intro g hg
    rcases List.mem_append.mp hg with hg | hg
    · rw [upo g.1 (h.gle g hg)]
      exact h.v2 g hg
    · obtain ⟨l, h1, rfl, h2⟩ := rows g hg
      have h3 := (h.rng l h1).1
      show valueF log span (l.1 + span) = sumBy lam (fun x => decide (x.1 ≤ l.1 + span)) _
      rw [upn _ h3 h2, val _ h3 h2]
      have := h.ab2 l.1 ⟨l, h1, Int.le_refl _⟩
      rw [show l.1 + span - span = l.1 by omega, this]
      omega
theorem total_app (a b : List Lot) : total (a ++ b) = total a + total b := by
  unfold total
  rw [List.map_append, List.sum_append]
theorem Inv.earn {log : List Ev} {span T n : Int} {ls gs : List Lot} (i : Int) (h : Inv log span T ls gs) (s : 1 ≤ span) (hn : 0 < n) : Inv (log ++ [(true, T, n)]) span T (ls ++ [(T, n, i)]) gs := by
  have val : ∀ s, s ≤ T → valueF (log ++ [(true, T, n)]) span s = valueF log span s := fun x hx => by
    rw [valueF_sumBy, valueF_sumBy, sumBy_app, sumBy_app, sumBy_cons, sumBy_cons, sumBy_nil, sumBy_nil]
    rw [if_neg (by simp [isE]; omega), if_neg (by simp [isS])]
    omega
  have abv : ∀ c, above c (ls ++ [(T, n, i)]) = above c ls + (if c < T then n else 0) := fun c => by
    unfold above
    rw [sumBy_app, sumBy_cons, sumBy_nil, Int.add_zero]
    refine congrArg _ ?_
    simp
  have eab : ∀ c, sumBy eam (fun e => isE e && decide (c < e.2.1)) (log ++ [(true, T, n)]) = sumBy eam (fun e => isE e && decide (c < e.2.1)) log + (if c < T then n else 0) := fun c => by
    rw [sumBy_app, sumBy_cons, sumBy_nil, Int.add_zero]
    refine congrArg _ ?_
    simp [isE]
  refine ⟨?_, ?_, h.posg, ?_, h.ascg, ?_, h.gle, ?_, ?_, ?_, ?_, ?_, ?_, ?_⟩
  · rw [total_app, sumBy_app, sumBy_app, sumBy_cons, sumBy_cons, sumBy_nil, sumBy_nil, if_pos (show isE (true, T, n) = true from rfl), if_neg (by simp [isS]), total_cons, total_nil]
    have := h.tot
    show total ls + (n + 0) + total gs = _ + (n + 0) - _
    omega
  · intro l hl
    rcases List.mem_append.mp hl with hl | hl
    · exact h.pos l hl
    · rw [List.mem_singleton.mp hl]; exact hn
  · refine List.pairwise_append.mpr ⟨h.asc, List.pairwise_singleton _ _, fun a ha b hb => ?_⟩
    rw [List.mem_singleton.mp hb]
    exact (h.rng a ha).2
  · intro l hl
    rcases List.mem_append.mp hl with hl | hl
    · exact h.rng l hl
    · rw [List.mem_singleton.mp hl]; exact ⟨by dsimp only; omega, Int.le_refl _⟩
  · intro e he
    rcases List.mem_append.mp he with he | he
    · exact h.evs e he
    · rw [List.mem_singleton.mp he]; exact Int.le_refl _
  · intro l hl
    rcases List.mem_append.mp hl with hl | hl
    · obtain ⟨e, e1, e2⟩ := h.src l hl
      exact ⟨e, List.mem_append_left _ e1, e2⟩
    · rw [List.mem_singleton.mp hl]; exact ⟨(true, T, n), List.mem_append_right _ List.mem_cons_self, rfl, rfl⟩
  · intro g hg
    obtain ⟨e, e1, e2⟩ := h.srcg g hg
    exact ⟨e, List.mem_append_left _ e1, e2⟩
  · intro c
    rw [abv, eab]
    have := h.ab1 c
    omega
  · rintro c ⟨l, hl, hc⟩
    rw [abv, eab]
    rcases List.mem_append.mp hl with hl | hl
    · rw [h.ab2 c ⟨l, hl, hc⟩]
    · rw [List.mem_singleton.mp hl] at hc
      have hc : T ≤ c := hc
      have a : above c ls = 0 := sumBy_none fun x hx => decide_eq_false (by have := (h.rng x hx).2; omega)
      have b : sumBy eam (fun e => isE e && decide (c < e.2.1)) log = 0 := sumBy_none fun x hx => by
        have := h.evs x hx
        rw [decide_eq_false (by omega), Bool.and_false]
      rw [a, b]
  · intro s hs
    rw [val s hs]
    exact h.v1 s hs
  · intro g hg
    rw [val _ (h.gle g hg)]
    exact h.v2 g hg
theorem Inv.spend {log : List Ev} {span T n : Int} {ls gs : List Lot} (h : Inv log span T ls gs) (s : 1 ≤ span) (hn : 0 < n) (hs : n ≤ total ls) : Inv (log ++ [(false, T, n)]) span T (takeF ls n).1 gs := by
  have val : ∀ s, s ≤ T → valueF (log ++ [(false, T, n)]) span s = valueF log span s := fun x hx => by
    rw [valueF_sumBy, valueF_sumBy, sumBy_app, sumBy_app, sumBy_cons, sumBy_cons, sumBy_nil, sumBy_nil]
    rw [if_neg (by simp [isE]), if_neg (by simp [isS]; omega)]
    omega
  have eab : ∀ c, sumBy eam (fun e => isE e && decide (c < e.2.1)) (log ++ [(false, T, n)]) = sumBy eam (fun e => isE e && decide (c < e.2.1)) log := fun c => by
    rw [sumBy_app, sumBy_cons, sumBy_nil, Int.add_zero, if_neg (by simp [isE]), Int.add_zero]
  refine ⟨?_, takeF_pos h.pos _, h.posg, takeF_asc h.asc, h.ascg, ?_, h.gle, ?_, ?_, ?_, ?_, ?_, ?_, ?_⟩
  · rw [takeF_total h.pos (Int.le_of_lt hn) hs, sumBy_app, sumBy_app, sumBy_cons, sumBy_cons, sumBy_nil, sumBy_nil, if_neg (by simp [isE]), if_pos (show isS (false, T, n) = true from rfl)]
    have := h.tot
    show total ls - n + total gs = _ + (0 + 0) - (_ + (n + 0))
    omega
  · intro x hx
    obtain ⟨l, h1, h2, _⟩ := takeF_src x hx
    rw [← h2]
    exact h.rng l h1
  · intro e he
    rcases List.mem_append.mp he with he | he
    · exact h.evs e he
    · rw [List.mem_singleton.mp he]; exact Int.le_refl _
  · intro x hx
    obtain ⟨l, h1, h2, _⟩ := takeF_src x hx
    obtain ⟨e, e1, e2⟩ := h.src l h1
    rw [← h2]
    exact ⟨e, List.mem_append_left _ e1, e2⟩
  · intro g hg
    obtain ⟨e, e1, e2⟩ := h.srcg g hg
    exact ⟨e, List.mem_append_left _ e1, e2⟩
  · intro c
    rw [eab]
    exact Int.le_trans (takeF_above h.asc h.pos c (Int.le_of_lt hn)).1 (h.ab1 c)
  · rintro c ⟨x, hx, hc⟩
    rw [eab, (takeF_above h.asc h.pos c (Int.le_of_lt hn)).2 ⟨x, hx, hc⟩]
    obtain ⟨l, h1, h2, _⟩ := takeF_src x hx
    exact h.ab2 c ⟨l, h1, by rw [h2]; exact hc⟩
  · intro s hs
    rw [val s hs]
    exact h.v1 s hs
  · intro g hg
    rw [val _ (h.gle g hg)]
    exact h.v2 g hg
/-! ### the run at any moment -/
abbrev AscE (log : List Ev) : Prop := log.Pairwise fun a b => a.2.1 ≤ b.2.1
theorem runF_skip {span u : Int} : ∀ {log : List Ev} {i : Nat} {ls gs : List Lot} {ts : List Tk}, (∀ e ∈ log, u < e.2.1) → runF span u i log ls gs ts = (ls, gs, ts, none)
  | [], _, _, _, _, _ => rfl
  | e :: r, i, ls, gs, ts, h => by
    rw [runF, if_neg (Int.not_le.mpr (h e List.mem_cons_self))]
    exact runF_skip fun x hx => h x (List.mem_cons_of_mem _ hx)
theorem runF_earn {span u t n : Int} {i : Nat} {r : List Ev} {ls gs : List Lot} {ts : List Tk} (h : t ≤ u) : runF span u i ((true, t, n) :: r) ls gs ts = runF span u (i + 1) r ((lapseF span t ls).1 ++ [(t, n, (i : Int))]) (gs ++ (lapseF span t ls).2) ts := by
  rw [runF, if_pos h, if_pos rfl]
theorem runF_spend {span u t n : Int} {i : Nat} {r : List Ev} {ls gs : List Lot} {ts : List Tk} (h : t ≤ u) (c : n ≤ total (lapseF span t ls).1) : runF span u i ((false, t, n) :: r) ls gs ts = runF span u (i + 1) r (takeF (lapseF span t ls).1 n).1 (gs ++ (lapseF span t ls).2) (ts ++ [(takeF (lapseF span t ls).1 n).2]) := by
  rw [runF, if_pos h, if_neg Bool.false_ne_true, if_neg (Int.not_lt.mpr c)]
theorem runF_refuse {span u t n : Int} {i : Nat} {r : List Ev} {ls gs : List Lot} {ts : List Tk} (h : t ≤ u) (c : total (lapseF span t ls).1 < n) : runF span u i ((false, t, n) :: r) ls gs ts = ((lapseF span t ls).1, gs ++ (lapseF span t ls).2, ts, some i) := by
  rw [runF, if_pos h, if_neg Bool.false_ne_true, if_pos c]
/-- a run that refuses nothing keeps what holds -/
theorem run_inv {span u big : Int} (s : 1 ≤ span) : ∀ {log : List Ev} {i : Nat} {pre : List Ev} {T : Int} {ls gs : List Lot} {ts : List Tk}, Inv pre span T ls gs → T ≤ u → (∀ e ∈ log, T ≤ e.2.1 ∧ 0 < e.2.2 ∧ e.2.1 ≤ big) → AscE log →
    (runF span big i log ls gs ts).2.2.2 = none → (runF span u i log ls gs ts).2.2.2 = none ∧ Inv (pre ++ log.filter fun e => decide (e.2.1 ≤ u)) span u (endF span u (runF span u i log ls gs ts)).1 (endF span u (runF span u i log ls gs ts)).2.1
  | [], i, pre, T, ls, gs, ts, h, hT, _, _, _ => by
    refine ⟨rfl, ?_⟩
    rw [List.filter_nil, List.append_nil]
    exact h.later hT
  | (kd, t, n) :: r, i, pre, T, ls, gs, ts, h, hT, hev, asc, no => by
    obtain ⟨a1, a2, a3⟩ := hev _ List.mem_cons_self
    obtain ⟨b1, b2⟩ := List.pairwise_cons.mp asc
    dsimp only at a1 a2 a3 b1
    by_cases c : t ≤ u
    · have L := h.later a1
      have hev' : ∀ e ∈ r, t ≤ e.2.1 ∧ 0 < e.2.2 ∧ e.2.1 ≤ big := fun e he => by
        have z := hev e (List.mem_cons_of_mem _ he)
        exact ⟨b1 e he, z.2.1, z.2.2⟩
      have fl : pre ++ ((kd, t, n) :: r).filter (fun e => decide (e.2.1 ≤ u)) = (pre ++ [(kd, t, n)]) ++ r.filter fun e => decide (e.2.1 ≤ u) := by
        rw [List.filter_cons_of_pos (p := fun e : Ev => decide (e.2.1 ≤ u)) (a := (kd, t, n)) (decide_eq_true c), List.append_assoc]
        rfl
      rw [fl]
      cases kd with
      | true =>
        rw [runF_earn a3] at no
        rw [runF_earn c]
        exact run_inv s (L.earn i s a2) c hev' b2 no
      | false =>
        by_cases cv : n ≤ total (lapseF span t ls).1
        · rw [runF_spend a3 cv] at no
          rw [runF_spend c cv]
          exact run_inv s (L.spend s a2 cv) c hev' b2 no
        · rw [runF_refuse a3 (Int.not_le.mp cv)] at no
          cases no
    · have sk : ∀ e ∈ (kd, t, n) :: r, u < e.2.1 := fun e he => by
        rcases List.mem_cons.mp he with z | he
        · rw [z]; exact Int.not_le.mp c
        · have := b1 e he; omega
      rw [runF_skip sk, List.filter_eq_nil_iff.mpr fun e he => by have := sk e he; simp; omega, List.append_nil]
      exact ⟨rfl, h.later hT⟩
theorem lapse_split {span u t : Int} (h : u ≤ t) : ∀ {ls : List Lot}, (lapseF span t ls).2 = (lapseF span u ls).2 ++ (lapseF span t (lapseF span u ls).1).2 ∧ (lapseF span t ls).1 = (lapseF span t (lapseF span u ls).1).1
  | [] => ⟨rfl, rfl⟩
  | l :: r => by
    by_cases c : l.1 + span ≤ u
    · obtain ⟨h1, h2⟩ := lapse_split h (ls := r) (span := span)
      have e1 : lapseF span t (l :: r) = ((lapseF span t r).1, (l.1 + span, l.2.1, l.2.2) :: (lapseF span t r).2) := by rw [lapseF, if_pos (Int.le_trans c h)]
      have e2 : lapseF span u (l :: r) = ((lapseF span u r).1, (l.1 + span, l.2.1, l.2.2) :: (lapseF span u r).2) := by rw [lapseF, if_pos c]
      rw [e1, e2]
      exact ⟨by rw [h1]; rfl, h2⟩
    · have e2 : lapseF span u (l :: r) = (l :: r, []) := by rw [lapseF, if_neg c]
      rw [e2]
      exact ⟨rfl, rfl⟩
/-- to let points lapse early makes no difference -/
theorem end_lapse {span u v : Int} (huv : u ≤ v) : ∀ {log : List Ev} {i : Nat} {ls gs : List Lot} {ts : List Tk}, (∀ e ∈ log, u ≤ e.2.1) →
    endF span v (runF span v i log ls gs ts) = endF span v (runF span v i log (lapseF span u ls).1 (gs ++ (lapseF span u ls).2) ts)
  | [], i, ls, gs, ts, _ => by
    obtain ⟨h1, h2⟩ := lapse_split huv (ls := ls) (span := span)
    show ((lapseF span v ls).1, gs ++ (lapseF span v ls).2, ts, none) = ((lapseF span v (lapseF span u ls).1).1, gs ++ (lapseF span u ls).2 ++ (lapseF span v (lapseF span u ls).1).2, ts, none)
    rw [h1, h2, List.append_assoc]
  | (kd, t, n) :: r, i, ls, gs, ts, h => by
    have ht : u ≤ t := h _ List.mem_cons_self
    obtain ⟨h1, h2⟩ := lapse_split ht (ls := ls) (span := span)
    by_cases c : t ≤ v
    · rw [runF, if_pos c, runF, if_pos c]
      dsimp only
      rw [h1, h2, List.append_assoc]
    · rw [runF, if_neg c, runF, if_neg c]
      exact end_lapse huv fun e he => h e (List.mem_cons_of_mem _ he)
theorem lapseF_rows {span t : Int} : ∀ {ls : List Lot}, ∀ x ∈ (lapseF span t ls).2, ∃ l ∈ ls, x = rowOf span l
  | [], x, hx => (List.not_mem_nil hx).elim
  | l :: r, x, hx => by
    rw [lapseF] at hx
    split at hx
    · rcases List.mem_cons.mp hx with e | hx
      · exact ⟨l, List.mem_cons_self, e⟩
      · obtain ⟨y, h1, h2⟩ := lapseF_rows x hx
        exact ⟨y, List.mem_cons_of_mem _ h1, h2⟩
    · exact (List.not_mem_nil hx).elim
theorem lapseF_late {span u t : Int} {ls : List Lot} (h : ∀ l ∈ ls, u < l.1 + span) : ∀ x ∈ (lapseF span t ls).2, u < x.1 := fun x hx => by
  obtain ⟨l, h1, rfl⟩ := lapseF_rows x hx
  exact h l h1
theorem lapseF_keep {span t : Int} : ∀ {ls : List Lot}, Asc ls → ∀ l ∈ (lapseF span t ls).1, t < l.1 + span := fun {ls} a l hl => by
  rw [lapseF_asc a] at hl
  simpa using (List.mem_filter.mp hl).2
theorem run_late {span u v : Int} (s : 1 ≤ span) : ∀ {log : List Ev} {i : Nat} {ls gs : List Lot} {ts : List Tk}, (∀ l ∈ ls, u < l.1 + span) → (∀ e ∈ log, u < e.2.1) →
    ∃ X, (endF span v (runF span v i log ls gs ts)).2.1 = gs ++ X ∧ ∀ x ∈ X, u < x.1
  | [], i, ls, gs, ts, h, _ => ⟨_, rfl, lapseF_late h⟩
  | (kd, t, n) :: r, i, ls, gs, ts, h, he => by
    have ht : u < t := he _ List.mem_cons_self
    have he' : ∀ e ∈ r, u < e.2.1 := fun e z => he e (List.mem_cons_of_mem _ z)
    have hl : ∀ l ∈ (lapseF span t ls).1, u < l.1 + span := fun l z => h l (lapseF_mem span t ls l z)
    by_cases c : t ≤ v
    · cases kd with
      | true =>
        rw [runF_earn c]
        obtain ⟨X, h1, h2⟩ := run_late s (v := v) (i := i + 1) (ls := (lapseF span t ls).1 ++ [(t, n, (i : Int))]) (gs := gs ++ (lapseF span t ls).2) (ts := ts) (fun l z => by
          rcases List.mem_append.mp z with z | z
          · exact hl l z
          · rw [List.mem_singleton.mp z]; dsimp only; omega) he'
        refine ⟨(lapseF span t ls).2 ++ X, by rw [h1, List.append_assoc], fun x z => ?_⟩
        rcases List.mem_append.mp z with z | z
        · exact lapseF_late h x z
        · exact h2 x z
      | false =>
        by_cases cv : n ≤ total (lapseF span t ls).1
        · rw [runF_spend c cv]
          obtain ⟨X, h1, h2⟩ := run_late s (v := v) (i := i + 1) (ls := (takeF (lapseF span t ls).1 n).1) (gs := gs ++ (lapseF span t ls).2) (ts := ts ++ [(takeF (lapseF span t ls).1 n).2]) (fun l z => by
            obtain ⟨y, y1, y2, _⟩ := takeF_src l z
            rw [← y2]
            exact hl y y1) he'
          refine ⟨(lapseF span t ls).2 ++ X, by rw [h1, List.append_assoc], fun x z => ?_⟩
          rcases List.mem_append.mp z with z | z
          · exact lapseF_late h x z
          · exact h2 x z
        · rw [runF_refuse c (Int.not_le.mp cv)]
          exact ⟨_, rfl, lapseF_late h⟩
    · rw [runF, if_neg c]
      exact run_late s h he'
/-- what has lapsed by a moment is what has lapsed by a later one, up to that moment -/
theorem run_rows {span u v : Int} (s : 1 ≤ span) (huv : u ≤ v) : ∀ {log : List Ev} {i : Nat} {ls gs : List Lot} {ts : List Tk}, Asc ls → (∀ l ∈ ls, ∀ e ∈ log, l.1 ≤ e.2.1) → AscE log → (runF span v i log ls gs ts).2.2.2 = none →
    ∃ X, (endF span v (runF span v i log ls gs ts)).2.1 = (endF span u (runF span u i log ls gs ts)).2.1 ++ X ∧ ∀ x ∈ X, u < x.1
  | [], i, ls, gs, ts, a, _, _, _ => by
    obtain ⟨h1, h2⟩ := lapse_split huv (ls := ls) (span := span)
    refine ⟨(lapseF span v (lapseF span u ls).1).2, ?_, lapseF_late (lapseF_keep a)⟩
    show gs ++ (lapseF span v ls).2 = gs ++ (lapseF span u ls).2 ++ _
    rw [h1, List.append_assoc]
  | (kd, t, n) :: r, i, ls, gs, ts, a, hl, asc, no => by
    obtain ⟨b1, b2⟩ := List.pairwise_cons.mp asc
    dsimp only at b1
    have lt : ∀ l ∈ (lapseF span t ls).1, l.1 ≤ t := fun l z => hl l (lapseF_mem span t ls l z) _ List.mem_cons_self
    have aL : Asc (lapseF span t ls).1 := by rw [lapseF_asc a]; exact a.filter _
    by_cases c : t ≤ u
    · have c' : t ≤ v := Int.le_trans c huv
      cases kd with
      | true =>
        rw [runF_earn c'] at no
        rw [runF_earn c, runF_earn c']
        refine run_rows s huv (List.pairwise_append.mpr ⟨aL, List.pairwise_singleton _ _, fun x hx y hy => ?_⟩) (fun l z e he => ?_) b2 no
        · rw [List.mem_singleton.mp hy]; exact lt x hx
        · rcases List.mem_append.mp z with z | z
          · exact Int.le_trans (lt l z) (b1 e he)
          · rw [List.mem_singleton.mp z]; exact b1 e he
      | false =>
        by_cases cv : n ≤ total (lapseF span t ls).1
        · rw [runF_spend c' cv] at no
          rw [runF_spend c cv, runF_spend c' cv]
          refine run_rows s huv (takeF_asc aL) (fun l z e he => ?_) b2 no
          obtain ⟨y, y1, y2, _⟩ := takeF_src l z
          rw [← y2]
          exact Int.le_trans (lt y y1) (b1 e he)
        · rw [runF_refuse c' (Int.not_le.mp cv)] at no
          cases no
    · have sk : ∀ e ∈ (kd, t, n) :: r, u < e.2.1 := fun e he => by
        rcases List.mem_cons.mp he with z | he
        · rw [z]; exact Int.not_le.mp c
        · have := b1 e he; omega
      rw [end_lapse huv (u := u) fun e he => Int.le_of_lt (sk e he), runF_skip (u := u) sk]
      exact run_late s (lapseF_keep a) sk
/-! ### pairs added up -/
abbrev am2 (r : Int × Int) : Int := r.2
structure MI (acc done : List (Int × Int)) : Prop where
  asc : acc.Pairwise fun a b => a.1 < b.1
  mem : ∀ m, (∃ r ∈ acc, r.1 = m) ↔ ∃ r ∈ done, r.1 = m
  sum : ∀ m, sumBy am2 (fun r => decide (r.1 = m)) acc = sumBy am2 (fun r => decide (r.1 = m)) done
theorem MI.step {acc done : List (Int × Int)} {r : Int × Int} (h : MI acc done) (ha : ∀ x ∈ done, x.1 ≤ r.1) : MI (mergeS acc r) (done ++ [r]) := by
  have memapp : ∀ (xs : List (Int × Int)) m, (∃ x ∈ xs ++ [r], x.1 = m) ↔ (∃ x ∈ xs, x.1 = m) ∨ r.1 = m := fun xs m => by
    constructor
    · rintro ⟨x, hx, e⟩
      rcases List.mem_append.mp hx with hx | hx
      · exact .inl ⟨x, hx, e⟩
      · rw [List.mem_singleton.mp hx] at e; exact .inr e
    · rintro (⟨x, hx, e⟩ | e)
      · exact ⟨x, List.mem_append_left _ hx, e⟩
      · exact ⟨r, List.mem_append_right _ List.mem_cons_self, e⟩
  unfold mergeS
  split
  · rename_i e
    have e : acc = [] := List.getLast?_eq_none_iff.mp e
    subst e
    refine ⟨by simp, fun m => ?_, fun m => ?_⟩
    · rw [memapp, memapp, h.mem]
    · rw [sumBy_app, sumBy_app, h.sum]
  · rename_i l e
    obtain ⟨ys, rfl⟩ := List.getLast?_eq_some_iff.mp e
    obtain ⟨p1, p2, p3⟩ := List.pairwise_append.mp h.asc
    have hl : l.1 ≤ r.1 := by
      obtain ⟨x, hx, z⟩ := (h.mem l.1).mp ⟨l, List.mem_append_right _ List.mem_cons_self, rfl⟩
      rw [← z]
      exact ha x hx
    split
    · rename_i c
      rw [List.dropLast_concat]
      refine ⟨List.pairwise_append.mpr ⟨p1, List.pairwise_singleton _ _, fun x hx y hy => ?_⟩, fun m => ?_, fun m => ?_⟩
      · rw [List.mem_singleton.mp hy]
        have := p3 x hx l List.mem_cons_self
        dsimp only
        omega
      · have z := h.mem m
        rw [memapp, ← z]
        constructor
        · rintro ⟨x, hx, e⟩
          rcases List.mem_append.mp hx with hx | hx
          · exact .inl ⟨x, List.mem_append_left _ hx, e⟩
          · rw [List.mem_singleton.mp hx] at e; exact .inr e
        · rintro (⟨x, hx, e⟩ | e)
          · rcases List.mem_append.mp hx with hx | hx
            · exact ⟨x, List.mem_append_left _ hx, e⟩
            · rw [List.mem_singleton.mp hx] at e
              exact ⟨(r.1, l.2 + r.2), List.mem_append_right _ List.mem_cons_self, by dsimp only; omega⟩
          · exact ⟨(r.1, l.2 + r.2), List.mem_append_right _ List.mem_cons_self, e⟩
      · rw [sumBy_app done, ← h.sum, sumBy_app, sumBy_app, sumBy_cons, sumBy_cons, sumBy_cons, sumBy_nil]
        dsimp only [am2]
        rw [c]
        split <;> omega
    · rename_i c
      refine ⟨List.pairwise_append.mpr ⟨h.asc, List.pairwise_singleton _ _, fun x hx y hy => ?_⟩, fun m => ?_, fun m => ?_⟩
      · rw [List.mem_singleton.mp hy]
        rcases List.mem_append.mp hx with hx | hx
        · have := p3 x hx l List.mem_cons_self
          omega
        · rw [List.mem_singleton.mp hx]; omega
      · rw [memapp, memapp, h.mem]
      · rw [sumBy_app, sumBy_app done, h.sum]
theorem merge_inv : ∀ {rows acc done : List (Int × Int)}, MI acc done → (done ++ rows).Pairwise (fun a b => a.1 ≤ b.1) → MI (rows.foldl mergeS acc) (done ++ rows)
  | [], acc, done, h, _ => by rw [List.append_nil]; exact h
  | r :: rs, acc, done, h, a => by
    have e : done ++ r :: rs = (done ++ [r]) ++ rs := by rw [List.append_assoc]; rfl
    rw [e] at a ⊢
    have := (List.pairwise_append.mp (List.pairwise_append.mp a).1).2.2
    exact merge_inv (h.step fun x hx => this x hx r List.mem_cons_self) a
theorem mergeF_MI {rows : List (Int × Int)} (a : rows.Pairwise (fun a b => a.1 ≤ b.1)) : MI (mergeF rows) rows :=
  merge_inv (acc := []) (done := []) ⟨.nil, fun _ => Iff.rfl, fun _ => rfl⟩ a
theorem ascE_of_ord : ∀ {log : List Ev}, OrdEv log → AscE log
  | [], _ => .nil
  | [_], _ => List.pairwise_singleton _ _
  | a :: b :: r, h => by
    have ih : AscE (b :: r) := ascE_of_ord fun p hp => h p (by
      show p ∈ (a, b) :: (b :: r).zip r
      exact List.mem_cons_of_mem _ hp)
    have hab : a.2.1 ≤ b.2.1 := h (a, b) (by show _ ∈ (a, b) :: (b :: r).zip r; exact List.mem_cons_self)
    refine List.pairwise_cons.mpr ⟨fun x hx => ?_, ih⟩
    rcases List.mem_cons.mp hx with e | hx
    · rw [e]; exact hab
    · exact Int.le_trans hab ((List.pairwise_cons.mp ih).1 x hx)
theorem ord_of_ascE : ∀ {log : List Ev}, AscE log → OrdEv log
  | [], _ => fun _ hp => (List.not_mem_nil hp).elim
  | [_], _ => fun _ hp => (List.not_mem_nil hp).elim
  | a :: b :: r, h => fun p hp => by
    obtain ⟨h1, h2⟩ := List.pairwise_cons.mp h
    have hp : p ∈ (a, b) :: (b :: r).zip r := hp
    rcases List.mem_cons.mp hp with e | hp
    · rw [e]; exact h1 b List.mem_cons_self
    · exact ord_of_ascE h2 p hp
/-! ### the law's lots are the program's -/
abbrev pr (l : Lot) : Int × Int := (l.1, l.2.1)
abbrev posP (l : Int × Int) : Bool := decide (0 < l.2)
theorem kOf_fst (kd : Bool) (x : Int × Int) : (kOf (kd, x)).1 = kW kd := rfl
theorem spendK_none {k : Str} (h : k ≠ "spend") : ∀ (ls : List (Int × Int)) (n : Int), spendK k ls n = ls
  | [], _ => rfl
  | l :: r, n => by
    have z : partK k l.2 n = 0 := by unfold partK; rw [if_neg (by simpa using h)]
    rw [spendK, z, spendK_none h r]
    simp
theorem spendK_take : ∀ {ls : List Lot} {n : Int}, PosL ls → 0 ≤ n → (spendK "spend" (ls.map pr) n).filter posP = (takeF ls n).1.map pr
  | [], _, _, _ => rfl
  | l :: r, n, p, hn => by
    have hl := p l List.mem_cons_self
    rw [List.map_cons, spendK, takeF]
    have z : partK "spend" (pr l).2 n = if n < l.2.1 then n else l.2.1 := by unfold partK; rw [if_pos (by decide)]
    rw [z]
    by_cases c : 0 < n
    · rw [if_pos c]
      by_cases d : l.2.1 ≤ n
      · rw [if_pos d, if_neg (by omega), List.filter_cons_of_neg (by simp), spendK_take p.tail (by omega)]
      · rw [if_neg d, if_pos (by omega), List.filter_cons_of_pos (by simp; omega), Int.sub_self, spendK_take p.tail (Int.le_refl _)]
        cases r with
        | nil => rfl
        | cons x y => rw [takeF, if_neg (by decide)]; rfl
    · have c0 : n = 0 := by omega
      subst c0
      rw [if_neg c, if_pos hl, List.filter_cons_of_pos (by simp; omega), spendK_take p.tail (by omega)]
      cases r with
      | nil => rw [takeF]; simp
      | cons x y => rw [takeF, if_neg (by decide)]; simp
theorem pos_filter {ls : List Lot} (p : PosL ls) : (ls.map pr).filter posP = ls.map pr := List.filter_eq_self.mpr fun x hx => by
  obtain ⟨l, hl, rfl⟩ := List.mem_map.mp hx
  exact decide_eq_true (p l hl)
theorem keep_lapse {span t : Int} {ls : List Lot} {os : List (Int × Int)} (a : Asc ls) (h : os.filter posP = ls.map pr) : keepK span t os = (lapseF span t ls).1.map pr := by
  rw [lapseF_asc a]
  unfold keepK
  have z : os.filter (fun l => decide (t < l.1 + span) && decide (0 < l.2)) = (os.filter posP).filter fun l => decide (t < l.1 + span) := by rw [List.filter_filter]
  rw [z, h, List.filter_map]
  rfl
theorem gone_lapse {span t : Int} {ls : List Lot} {os : List (Int × Int)} (a : Asc ls) (h : os.filter posP = ls.map pr) : goneK span t os = (lapseF span t ls).2.map pr := by
  rw [lapseF_asc a]
  unfold goneK
  have z : os.filter (fun l => decide (l.1 + span ≤ t) && decide (0 < l.2)) = (os.filter posP).filter fun l => decide (l.1 + span ≤ t) := by rw [List.filter_filter]
  rw [z, h, List.filter_map, List.map_map, List.map_map]
  rfl
theorem lapse_pos {span t : Int} {ls : List Lot} (p : PosL ls) : PosL (lapseF span t ls).1 := fun x hx => p x (lapseF_mem span t ls x hx)
theorem total_pr (ls : List Lot) : ((ls.map pr).map fun l => l.2).sum = total ls := by rw [List.map_map]; rfl
theorem oRun_play {span til : Int} : ∀ {log : List Ev} {i : Nat} {ls gs : List Lot} {ts : List Tk} {os : List (Int × Int)}, Asc ls → PosL ls → (∀ l ∈ ls, ∀ e ∈ log, l.1 ≤ e.2.1) → AscE log → PosEv log → os.filter posP = ls.map pr →
    oRun span til i (log.map kOf ++ [(("stop" : Str), til, 0)]) os (gs.map pr) = ((endF span til (runF span til i log ls gs ts)).1.map pr, (endF span til (runF span til i log ls gs ts)).2.1.map pr, (endF span til (runF span til i log ls gs ts)).2.2.2)
  | [], i, ls, gs, ts, os, a, p, _, _, _, h => by
    rw [List.map_nil, List.nil_append, oRun, if_pos (Int.le_refl _), if_neg (by show ¬ ("stop" : Str) = "earn"; decide), keep_lapse a h, gone_lapse a h, total_pr, if_neg (by have := (lapse_pos (span := span) (t := til) p).total; dsimp only; omega), oRun, spendK_none (by show ("stop" : Str) ≠ "spend"; decide)]
    rw [pos_filter (lapse_pos p), ← List.map_append]
    rfl
  | (kd, t, n) :: r, i, ls, gs, ts, os, a, p, hl, asc, pe, h => by
    obtain ⟨b1, b2⟩ := List.pairwise_cons.mp asc
    dsimp only at b1
    have hn : 0 < n := pe _ List.mem_cons_self
    have pe' : PosEv r := fun e he => pe e (List.mem_cons_of_mem _ he)
    have lt : ∀ l ∈ (lapseF span t ls).1, l.1 ≤ t := fun l z => hl l (lapseF_mem span t ls l z) _ List.mem_cons_self
    have aL : Asc (lapseF span t ls).1 := by rw [lapseF_asc a]; exact a.filter _
    rw [List.map_cons, List.cons_append, oRun]
    show (if t ≤ til then _ else _) = _
    by_cases c : t ≤ til
    · rw [if_pos c]
      dsimp only
      rw [keep_lapse a h, gone_lapse a h, total_pr, ← List.map_append]
      cases kd with
      | true =>
        rw [if_pos (by rfl), runF_earn c, spendK_none (by show kW true ≠ _; decide)]
        refine oRun_play (List.pairwise_append.mpr ⟨aL, List.pairwise_singleton _ _, fun x hx y hy => ?_⟩) (fun l z => ?_) (fun l z e he => ?_) b2 pe' ?_
        · rw [List.mem_singleton.mp hy]; exact lt x hx
        · rcases List.mem_append.mp z with z | z
          · exact lapse_pos p l z
          · rw [List.mem_singleton.mp z]; exact hn
        · rcases List.mem_append.mp z with z | z
          · exact Int.le_trans (lt l z) (b1 e he)
          · rw [List.mem_singleton.mp z]; exact b1 e he
        · rw [List.filter_append, pos_filter (lapse_pos p), List.filter_cons_of_pos (by simpa using hn), List.map_append]
          rfl
      | false =>
        rw [if_neg (by show ¬ kW false = _; decide)]
        by_cases cv : n ≤ total (lapseF span t ls).1
        · rw [if_neg (Int.not_lt.mpr cv), runF_spend c cv]
          refine oRun_play (takeF_asc aL) (takeF_pos (lapse_pos p) _) (fun l z e he => ?_) b2 pe' ?_
          · obtain ⟨y, y1, y2, _⟩ := takeF_src l z
            rw [← y2]
            exact Int.le_trans (lt y y1) (b1 e he)
          · exact spendK_take (lapse_pos p) (Int.le_of_lt hn)
        · rw [if_pos (Int.not_le.mp cv), runF_refuse c (Int.not_le.mp cv)]
          rfl
    · rw [if_neg c, runF, if_neg c]
      exact oRun_play a p (fun l z e he => hl l z e (List.mem_cons_of_mem _ he)) b2 pe' h
theorem lotsF_play {log : List Ev} {span til : Int} (a : AscE log) (p : PosEv log) : lotsF log span til = ((playF span til log).1.map pr, (playF span til log).2.1.map pr, (playF span til log).2.2.2) :=
  oRun_play (ls := []) (gs := []) (ts := []) .nil (fun _ h => (List.not_mem_nil h).elim) (fun _ h => (List.not_mem_nil h).elim) a p rfl
theorem sumK_pr (ls : List Lot) : sumK (ls.map pr) = total ls := total_pr ls
/-! ### the whole log -/
theorem play_inv {log : List Ev} {span u : Int} (s : 1 ≤ span) (u0 : 0 ≤ u) (a : AscE log) (p : ∀ e ∈ log, PosE e) (no : (playF span 10000 log).2.2.2 = none) :
    (playF span u log).2.2.2 = none ∧ Inv (log.filter fun e => decide (e.2.1 ≤ u)) span u (playF span u log).1 (playF span u log).2.1 := by
  have no' : (runF span 10000 0 log [] [] []).2.2.2 = none := by
    unfold playF endF at no
    split at no
    · exact no
    · rename_i h; exact h
  obtain ⟨h1, h2⟩ := run_inv s (u := u) (inv_nil span 0) u0 (fun e he => ⟨(p e he).1, by have := (p e he).2.2.1; omega, (p e he).2.1⟩) a no'
  refine ⟨?_, h2⟩
  unfold playF endF
  rw [h1]
theorem play_no {log : List Ev} {span u : Int} (no : (playF span u log).2.2.2 = none) : (runF span u 0 log [] [] []).2.2.2 = none := by
  unfold playF endF at no
  split at no
  · exact no
  · rename_i h; exact h
theorem play_rows {log : List Ev} {span u v : Int} (s : 1 ≤ span) (huv : u ≤ v) (a : AscE log) (no : (playF span v log).2.2.2 = none) : ∃ X, (playF span v log).2.1 = (playF span u log).2.1 ++ X ∧ ∀ x ∈ X, u < x.1 :=
  run_rows s huv .nil (fun _ h => (List.not_mem_nil h).elim) a (play_no no)
theorem runF_app {span u : Int} : ∀ {a b : List Ev} {i : Nat} {ls gs : List Lot} {ts : List Tk}, (runF span u i a ls gs ts).2.2.2 = none →
    runF span u i (a ++ b) ls gs ts = runF span u (i + a.length) b (runF span u i a ls gs ts).1 (runF span u i a ls gs ts).2.1 (runF span u i a ls gs ts).2.2.1
  | [], _, _, _, _, _, _ => rfl
  | (kd, t, n) :: r, b, i, ls, gs, ts, no => by
    have e : i + ((kd, t, n) :: r).length = i + 1 + r.length := by rw [List.length_cons]; omega
    rw [e, List.cons_append]
    by_cases c : t ≤ u
    · cases kd with
      | true =>
        rw [runF_earn c] at no
        rw [runF_earn c, runF_earn c]
        exact runF_app no
      | false =>
        by_cases cv : n ≤ total (lapseF span t ls).1
        · rw [runF_spend c cv] at no
          rw [runF_spend c cv, runF_spend c cv]
          exact runF_app no
        · rw [runF_refuse c (Int.not_le.mp cv)] at no
          cases no
    · rw [runF, if_neg c] at no
      have e1 : ∀ r', runF span u i ((kd, t, n) :: r') ls gs ts = runF span u (i + 1) r' ls gs ts := fun r' => by rw [runF, if_neg c]
      rw [e1, e1]
      exact runF_app no
/-- a run does not see what comes behind the last event -/
theorem runF_til {span u v : Int} : ∀ {log : List Ev} {i : Nat} {ls gs : List Lot} {ts : List Tk}, (∀ e ∈ log, e.2.1 ≤ u ∧ e.2.1 ≤ v) → runF span u i log ls gs ts = runF span v i log ls gs ts
  | [], _, _, _, _, _ => rfl
  | (kd, t, n) :: r, i, ls, gs, ts, h => by
    obtain ⟨h1, h2⟩ := h _ List.mem_cons_self
    dsimp only at h1 h2
    have h' : ∀ e ∈ r, e.2.1 ≤ u ∧ e.2.1 ≤ v := fun e he => h e (List.mem_cons_of_mem _ he)
    rw [runF, if_pos h1, runF, if_pos h2]
    dsimp only
    rw [runF_til (u := u) (v := v) h', runF_til (u := u) (v := v) h']
/-! ### logs that the law makes -/
theorem gd_nil {span t : Int} : Gd [] span t := ⟨fun _ h => (List.not_mem_nil h).elim, fun _ h => (List.not_mem_nil h).elim, rfl⟩
theorem Gd.later {log : List Ev} {span t t' : Int} (h : Gd log span t) (l : t ≤ t') : Gd log span t' := ⟨fun e he => ⟨(h.ev e he).1, Int.le_trans (h.ev e he).2 l⟩, h.ord, h.no⟩
theorem Gd.asc {log : List Ev} {span t : Int} (h : Gd log span t) : AscE log := ascE_of_ord h.ord
theorem Gd.pos {log : List Ev} {span t : Int} (h : Gd log span t) : PosEv log := fun e he => by have := (h.ev e he).1.2.2.1; omega
theorem Gd.inv {log : List Ev} {span t u : Int} (h : Gd log span t) (s : 1 ≤ span) (u0 : 0 ≤ u) : (playF span u log).2.2.2 = none ∧ Inv (log.filter fun e => decide (e.2.1 ≤ u)) span u (playF span u log).1 (playF span u log).2.1 :=
  play_inv s u0 h.asc (fun e he => (h.ev e he).1) h.no
theorem sumBy_bound {log : List Ev} {p : Ev → Bool} (h : ∀ e ∈ log, PosE e) : sumBy eam p log ≤ 1000000 * log.length := by
  induction log with
  | nil => exact Int.le_refl _
  | cons e r ih =>
    rw [sumBy_cons, List.length_cons]
    have h1 := ih fun x hx => h x (List.mem_cons_of_mem _ hx)
    have h2 := h e List.mem_cons_self
    obtain ⟨_, _, h3, h4⟩ := h2
    show (if p e = true then e.2.2 else 0) + _ ≤ _
    split <;> push_cast <;> omega
theorem Inv.bound {log : List Ev} {span t : Int} {ls gs : List Lot} (h : Inv log span t ls gs) (p : ∀ e ∈ log, PosE e) : total ls ≤ 1000000 * log.length := by
  have h1 := h.tot
  have h2 := h.posg.total
  have h3 : 0 ≤ sumBy eam isS log := sumBy_nonneg fun e he => by have := (p e he).2.2.1; show 0 ≤ e.2.2; omega
  have h4 := sumBy_bound (p := isE) p
  omega
theorem Gd.bound {log : List Ev} {span t : Int} (h : Gd log span t) (l : log.length ≤ 30) (s : 1 ≤ span) : sumK (lotsF log span t).1 ≤ 30000000 := by
  rw [lotsF_play h.asc h.pos]
  dsimp only
  rw [sumK_pr]
  by_cases t0 : 0 ≤ t
  · obtain ⟨_, I⟩ := h.inv s t0
    have z := I.bound fun e he => (h.ev e (List.mem_filter.mp he).1).1
    have z2 := List.length_filter_le (fun e : Ev => decide (e.2.1 ≤ t)) log
    omega
  · cases log with
    | nil => show total [] ≤ _; decide
    | cons e r =>
      obtain ⟨h1, h2⟩ := h.ev e List.mem_cons_self
      have := h1.1
      omega
theorem Gd.snoc {log : List Ev} {span t : Int} {e : Ev} (h : Gd log span t) (pe : PosE e) (et : e.2.1 = t) (no : (playF span 10000 (log ++ [e])).2.2.2 = none) : Gd (log ++ [e]) span t := by
  refine ⟨fun x hx => ?_, ord_of_ascE (List.pairwise_append.mpr ⟨h.asc, List.pairwise_singleton _ _, fun x hx y hy => ?_⟩), no⟩
  · rcases List.mem_append.mp hx with hx | hx
    · exact h.ev x hx
    · rw [List.mem_singleton.mp hx]; exact ⟨pe, by omega⟩
  · rw [List.mem_singleton.mp hy, et]
    exact (h.ev x hx).2
theorem endF_no {span u : Int} {r : Pl} : (endF span u r).2.2.2 = r.2.2.2 := by
  unfold endF
  split
  · rfl
  · rename_i e; exact e.symm
theorem Gd.earn {log : List Ev} {span t n : Int} (h : Gd log span t) (t0 : 0 ≤ t) (t1 : t ≤ 10000) (n0 : 1 ≤ n) (n1 : n ≤ 1000000) (s : 1 ≤ span) : Gd (log ++ [(true, t, n)]) span t := by
  refine h.snoc ⟨t0, t1, n0, n1⟩ rfl ?_
  rw [playF, endF_no, runF_app (play_no h.no), runF_earn t1]
  rfl
theorem Gd.spend {log : List Ev} {span t n : Int} (h : Gd log span t) (t0 : 0 ≤ t) (t1 : t ≤ 10000) (n0 : 1 ≤ n) (n1 : n ≤ 1000000) (s : 1 ≤ span) (hs : n ≤ sumK (lotsF log span t).1) : Gd (log ++ [(false, t, n)]) span t := by
  refine h.snoc ⟨t0, t1, n0, n1⟩ rfl ?_
  rw [lotsF_play h.asc h.pos] at hs
  dsimp only at hs
  rw [sumK_pr] at hs
  have e : runF span t 0 log [] [] [] = runF span 10000 0 log [] [] [] := runF_til fun e he => ⟨(h.ev e he).2, (h.ev e he).1.2.1⟩
  have hs' : n ≤ total (lapseF span t (runF span 10000 0 log [] [] []).1).1 := by
    rw [← e]
    have z : (runF span t 0 log [] [] []).2.2.2 = none := by rw [e]; exact play_no h.no
    unfold playF endF at hs
    rw [z] at hs
    exact hs
  rw [playF, endF_no, runF_app (play_no h.no), runF_spend t1 hs']
  rfl
/-! ### balances and lapsed points -/
theorem goneBy_total (log : List Ev) (span u : Int) : goneBy log span u = total (playF span u log).2.1 := rfl
theorem valueF_filter {log : List Ev} {span u s : Int} (h : 1 ≤ span) (v1 : s ≤ u) : valueF (log.filter fun e => decide (e.2.1 ≤ u)) span s = valueF log span s := by
  rw [valueF_sumBy, valueF_sumBy, sumBy_filter, sumBy_filter]
  refine congr (congrArg _ (sumBy_congr fun e _ => ?_)) (sumBy_congr fun e _ => ?_)
  · cases isE e
    · simp
    · rw [Bool.true_and, ← Bool.decide_and]
      exact decide_eq_decide.mpr (by omega)
  · cases isS e
    · simp
    · rw [Bool.true_and, ← Bool.decide_and]
      exact decide_eq_decide.mpr (by omega)
theorem earnedTo_eq (log : List Ev) (u : Int) : earnedTo log u = sumBy eam isE (log.filter fun e => decide (e.2.1 ≤ u)) := by
  rw [sumBy_filter]
  exact sumBy_congr fun e _ => Bool.and_comm _ _
theorem spentTo_eq (log : List Ev) (u : Int) : spentTo log u = sumBy eam isS (log.filter fun e => decide (e.2.1 ≤ u)) := by
  rw [sumBy_filter]
  exact sumBy_congr fun e _ => Bool.and_comm _ _
theorem balance_law {log : List Ev} {span u : Int} (h : Gd log span 10000) (s1 : 1 ≤ span) (s2 : span ≤ 1000) (u0 : 0 ≤ u) (u1 : u ≤ 12000) : total (playF span u log).1 = earnedTo log u - spentTo log u - goneBy log span u := by
  obtain ⟨_, I⟩ := h.inv s1 u0
  have := I.tot
  rw [earnedTo_eq, spentTo_eq, goneBy_total]
  omega
theorem Inv.upTo_le {log : List Ev} {span t : Int} {ls gs : List Lot} (h : Inv log span t ls gs) (s : Int) : sumBy lam (fun g => decide (g.1 ≤ s)) gs ≤ total gs := by
  rw [total_sumBy]
  exact sumBy_mono (fun l hl => Int.le_of_lt (h.posg l hl)) fun _ _ _ => rfl
theorem value_le {log : List Ev} {span u s : Int} (h : Gd log span 10000) (s1 : 1 ≤ span) (s2 : span ≤ 1000) (u0 : 0 ≤ u) (u1 : u ≤ 12000) (v0 : 0 ≤ s) (v1 : s ≤ u) : valueF log span s ≤ goneBy log span u := by
  obtain ⟨_, I⟩ := h.inv s1 u0
  rw [← valueF_filter s1 v1]
  exact Int.le_trans (I.v1 s v1) (I.upTo_le s)
/-! ### the worst moment -/
theorem getLast_max {xs : List (Int × Int)} {r : Int × Int} (a : xs.Pairwise fun a b => a.1 < b.1) (h : xs.getLast? = some r) : r ∈ xs ∧ ∀ x ∈ xs, x.1 ≤ r.1 := by
  obtain ⟨ys, rfl⟩ := List.getLast?_eq_some_iff.mp h
  refine ⟨List.mem_append_right _ List.mem_cons_self, fun x hx => ?_⟩
  rcases List.mem_append.mp hx with hx | hx
  · exact Int.le_of_lt ((List.pairwise_append.mp a).2.2 x hx r List.mem_cons_self)
  · rw [List.mem_singleton.mp hx]; exact Int.le_refl _
theorem asc_pr {gs : List Lot} (a : Asc gs) : (gs.map fun l : Lot => (l.1, l.2.1)).Pairwise fun a b => a.1 ≤ b.1 := List.pairwise_map.mpr a
theorem worst_char {log : List Ev} {span u : Int} (h : Gd log span 10000) (s1 : 1 ≤ span) (u0 : 0 ≤ u) (u1 : u ≤ 12000) :
    ((playF span u log).2.1 = [] ∧ worstF log u span = none) ∨ ∃ g ∈ (playF span u log).2.1, worstF log u span = some g.1 ∧ ∀ x ∈ (playF span u log).2.1, x.1 ≤ g.1 := by
  obtain ⟨n1, I⟩ := h.inv s1 u0
  obtain ⟨n2, I2⟩ := h.inv (u := 12000) s1 (by decide)
  obtain ⟨X, hX, hX2⟩ := play_rows s1 u1 h.asc n2
  have M := mergeF_MI (asc_pr I2.ascg)
  have mem : ∀ m, m ≤ u → ((∃ r ∈ lapsesF log span, r.1 = m) ↔ ∃ g ∈ (playF span u log).2.1, g.1 = m) := fun m hm => by
    rw [lapsesF, M.mem m]
    constructor
    · rintro ⟨r, hr, e⟩
      obtain ⟨g, hg, rfl⟩ := List.mem_map.mp hr
      rw [hX] at hg
      rcases List.mem_append.mp hg with hg | hg
      · exact ⟨g, hg, e⟩
      · have := hX2 g hg
        dsimp only at e
        omega
    · rintro ⟨g, hg, e⟩
      exact ⟨(g.1, g.2.1), List.mem_map.mpr ⟨g, by rw [hX]; exact List.mem_append_left _ hg, rfl⟩, e⟩
  have F : ((lapsesF log span).filter fun r => decide (r.1 ≤ u)).Pairwise fun a b => a.1 < b.1 := M.asc.filter _
  unfold worstF
  cases hz : ((lapsesF log span).filter fun r => decide (r.1 ≤ u)).getLast? with
  | none =>
    refine .inl ⟨?_, rfl⟩
    have e := List.getLast?_eq_none_iff.mp hz
    cases hg : (playF span u log).2.1 with
    | nil => rfl
    | cons g r =>
      have m : g ∈ (playF span u log).2.1 := by rw [hg]; exact List.mem_cons_self
      obtain ⟨x, x1, x2⟩ := (mem g.1 (I.gle g m)).mpr ⟨g, m, rfl⟩
      have z := List.filter_eq_nil_iff.mp e x x1
      have := I.gle g m
      rw [x2] at z
      simp at z
      omega
  | some r =>
    obtain ⟨r1, r2⟩ := getLast_max F hz
    obtain ⟨r3, r4⟩ := List.mem_filter.mp r1
    have r4 : r.1 ≤ u := by simpa using r4
    obtain ⟨g, g1, g2⟩ := (mem r.1 r4).mp ⟨r, r3, rfl⟩
    refine .inr ⟨g, g1, by rw [g2]; rfl, fun x hx => ?_⟩
    obtain ⟨y, y1, y2⟩ := (mem x.1 (I.gle x hx)).mpr ⟨x, hx, rfl⟩
    have := r2 y (List.mem_filter.mpr ⟨y1, decide_eq_true (by have := I.gle x hx; omega)⟩)
    omega
structure WI (log : List Ev) (span u : Int) (done : List Int) (b : Int × Option Int) : Prop where
  nn : 0 ≤ b.1
  le : ∀ m ∈ done, m ≤ u → valueF log span m ≤ b.1
  no : b.2 = none → b.1 = 0
  so : ∀ m, b.2 = some m → m ∈ done ∧ m ≤ u ∧ 0 < b.1 ∧ valueF log span m = b.1 ∧ ∀ k ∈ done, k < m → k ≤ u → valueF log span k < b.1
theorem wi_fold {log : List Ev} {span u : Int} : ∀ {ms done : List Int} {b : Int × Option Int}, WI log span u done b → (done ++ ms).Pairwise (· < ·) → WI log span u (done ++ ms) (ms.foldl (stepW log span u) b)
  | [], done, b, h, _ => by rw [List.append_nil]; exact h
  | m :: r, done, b, h, a => by
    have e : done ++ m :: r = (done ++ [m]) ++ r := by rw [List.append_assoc]; rfl
    rw [e] at a ⊢
    have lt : ∀ k ∈ done, k < m := fun k hk => (List.pairwise_append.mp (List.pairwise_append.mp a).1).2.2 k hk m List.mem_cons_self
    rw [List.foldl_cons]
    refine wi_fold ?_ a
    unfold stepW
    split
    · rename_i c
      obtain ⟨c1, c2⟩ := c
      have := h.nn
      refine ⟨by dsimp only; omega, fun k hk ku => ?_, fun z => (by cases z), fun k hk => ?_⟩
      · rcases List.mem_append.mp hk with hk | hk
        · have := h.le k hk ku
          dsimp only
          omega
        · rw [List.mem_singleton.mp hk]; exact Int.le_refl _
      · cases hk
        refine ⟨List.mem_append_right _ List.mem_cons_self, c1, by dsimp only; omega, rfl, fun k hk kl ku => ?_⟩
        rcases List.mem_append.mp hk with hk | hk
        · have := h.le k hk ku
          dsimp only
          omega
        · rw [List.mem_singleton.mp hk] at kl; omega
    · rename_i c
      refine ⟨h.nn, fun k hk ku => ?_, h.no, fun k hk => ?_⟩
      · rcases List.mem_append.mp hk with hk | hk
        · exact h.le k hk ku
        · rw [List.mem_singleton.mp hk] at ku ⊢
          omega
      · obtain ⟨k1, k2, k3, k4, k5⟩ := h.so k hk
        refine ⟨List.mem_append_left _ k1, k2, k3, k4, fun x hx xl xu => ?_⟩
        rcases List.mem_append.mp hx with hx | hx
        · exact k5 x hx xl xu
        · rw [List.mem_singleton.mp hx] at xl
          have := lt k k1
          omega
theorem worst_law {log : List Ev} {span u : Int} {ms : List Int} (h : Gd log span 10000) (s1 : 1 ≤ span) (s2 : span ≤ 1000) (u0 : 0 ≤ u) (u1 : u ≤ 12000) (d : DueM log span ms) : ms.foldl (stepW log span u) (0, none) = (goneBy log span u, worstF log u span) := by
  obtain ⟨n1, I⟩ := h.inv s1 u0
  have W : WI log span u ([] ++ ms) (ms.foldl (stepW log span u) (0, none)) := wi_fold ⟨Int.le_refl _, fun _ hm => (List.not_mem_nil hm).elim, fun _ => rfl, fun _ z => (by cases z)⟩ d.1
  rw [List.nil_append] at W
  generalize ms.foldl (stepW log span u) (0, none) = b at W
  obtain ⟨v, w⟩ := b
  have vle : ∀ m, m ≤ u → valueF log span m ≤ sumBy lam (fun g => decide (g.1 ≤ m)) (playF span u log).2.1 := fun m hm => by
    rw [← valueF_filter s1 hm]
    exact I.v1 m hm
  rcases worst_char h s1 u0 u1 with ⟨c1, c2⟩ | ⟨g, g1, g2, g3⟩
  · rw [c2, goneBy_total, c1, total_nil]
    cases w with
    | none => have := W.no rfl; dsimp only at this; rw [this]
    | some m =>
      obtain ⟨m1, m2, m3, m4, _⟩ := W.so m rfl
      have z := vle m m2
      rw [c1] at z
      have z : valueF log span m ≤ 0 := z
      dsimp only at m3 m4
      omega
  · rw [g2, goneBy_total]
    have gu := I.gle g g1
    have gv : valueF log span g.1 = total (playF span u log).2.1 := by
      rw [← valueF_filter s1 gu, I.v2 g g1, total_sumBy]
      exact sumBy_congr fun x hx => decide_eq_true (g3 x hx)
    have tpos : 0 < total (playF span u log).2.1 := by
      have z := I.posg g g1
      have := sumBy_mono (f := lam) (p := fun x => decide (x = g)) (q := fun _ => true) (xs := (playF span u log).2.1) (fun l hl => Int.le_of_lt (I.posg l hl)) fun _ _ _ => rfl
      rw [← total_sumBy] at this
      obtain ⟨a, b, e⟩ := List.append_of_mem g1
      rw [e, total_app, total_cons]
      have ha : PosL a := fun l hl => I.posg l (by rw [e]; exact List.mem_append_left _ hl)
      have hb : PosL b := fun l hl => I.posg l (by rw [e]; exact List.mem_append_right _ (List.mem_cons_of_mem _ hl))
      have := ha.total
      have := hb.total
      omega
    have gm : g.1 ∈ ms := (d.2 g.1).mpr (by
      obtain ⟨e, e1, e2, e3⟩ := I.srcg g g1
      exact ⟨e, (List.mem_filter.mp e1).1, e2, e3⟩)
    have lv : valueF log span g.1 ≤ v := W.le g.1 gm gu
    cases w with
    | none =>
      have z := W.no rfl
      dsimp only at z
      omega
    | some m =>
      obtain ⟨m1, m2, m3, m4, m5⟩ := W.so m rfl
      dsimp only at m3 m4 m5
      have z := vle m m2
      have z2 := I.upTo_le m
      have hv : v = total (playF span u log).2.1 := by omega
      have hm : m = g.1 := by
        by_cases c : g.1 < m
        · have := m5 g.1 gm c gu
          omega
        · by_cases c2 : m < g.1
          · exfalso
            -- the row of g is left out
            have q : sumBy lam (fun x => decide (x.1 ≤ m)) (playF span u log).2.1 + 1 ≤ total (playF span u log).2.1 := by
              obtain ⟨a, b, e⟩ := List.append_of_mem g1
              have hg := I.posg g g1
              have ha : ∀ l ∈ a, 0 ≤ lam l := fun l hl => Int.le_of_lt (I.posg l (by rw [e]; exact List.mem_append_left _ hl))
              have hb : ∀ l ∈ b, 0 ≤ lam l := fun l hl => Int.le_of_lt (I.posg l (by rw [e]; exact List.mem_append_right _ (List.mem_cons_of_mem _ hl)))
              rw [e, total_app, total_cons, sumBy_app, sumBy_cons, if_neg (by simpa using c2), total_sumBy, total_sumBy]
              have := sumBy_mono (p := fun x : Lot => decide (x.1 ≤ m)) (q := fun _ => true) ha fun _ _ _ => rfl
              have := sumBy_mono (p := fun x : Lot => decide (x.1 ≤ m)) (q := fun _ => true) hb fun _ _ _ => rfl
              omega
            omega
          · omega
      rw [hv, hm]
/-! ### events -/
def spEvents : DSp := fun ds O Φ _ => ∃ (a : Addr) (xs : List D) (n span many : Int), ds = [.obj a, .int span, .int many] ∧ O = [(a, .lst xs)] ∧ Dk n xs ∧ n < 500000 ∧ 1 ≤ span ∧ span ≤ 1000 ∧ 0 ≤ many ∧ many ≤ 30 ∧
  ∀ (log : List Ev) zs, Gd log span 10000 → (log.length : Int) ≤ many → Dk (n + 200) zs → Φ (.tup (log.map eEv)) [(a, .lst zs)]
abbrev nEvents : List Str := ["_law_deck_here", "_law_span_here", "_law_many", "_law_found", "_law_time", "_law_wide", "_law_turn", "_law_there_here", "_law_some"]
theorem sc_events : FnScope nEvents ["_law_deck_here", "_law_span_here", "_law_many"] (defScope (topS 49)) := ⟨rfl, rfl, rfl, by decide +kernel, rfl, by decide +kernel, by decide +kernel⟩
theorem ok_events {M : Mach} {f : Addr} {fd : FuncData} {k : Nat} (F : Fun M.K "_law_events" "_law_events" (topS 49) f fd) (h1 : M.mg "range" = none) (h2 : M.mg "min" = none) (g : GFn M "_law_pick" k spPick) (g2 : GFn M "_law_one" k spOne) (g3 : GFn M "_law_there" k spThereK) :
    FnOk M.P M.w M.K M.mg M.base (L2N.CX M.P M.w) (k + 1) f fd ["_law_deck_here", "_law_span_here", "_law_many"] (liftSp M.K spEvents) := by
  refine fn_body (N := nEvents) (vn := nEvents) (gl := ["range", "min", "_law_pick", "_law_one", "_law_there"]) F sc_events (by decide +kernel) (fun ds O Φ Ψ h => ?_) fun X B ds O Φ Ψ bd h => ?_
  · obtain ⟨_, _, _, _, _, rfl, _⟩ := h
    rfl
  obtain ⟨a, xs, n, span, many, rfl, rfl, dk, hn, s1, s2, m1, m2, q⟩ := h
  have C := bd.C
  change WSs _ _ [some _, some _, some _, none, none, none, none, none, none] _ _ _
  refine wss_cons ?_
  exists "p2"
  refine wa_cons (we_pv (by exists "ev") (wa_cons (we_pick C g bd.r (by decide +kernel) (by exists "ea") dk (by omega) (by decide) (by decide) fun t ys t1 t2 dk' => wa_nil ⟨_, _, rfl, ?_⟩)))
  exists "nx"
  refine wss_cons (ws_set C (by exists "sa") (by decide +kernel) (we_one C g2 bd.r (by decide +kernel) (wa_pv (by exists "ea") ⟨a, ys, _, n + 1, [], rfl, rfl, dk', by omega, (fun h => by cases h), (by exact Nat.le_of_ble_eq_true rfl), fun y zs hy dk2 => ?_⟩)))
  have hw : ∃ w : Int, y = .int w ∧ 1 ≤ w ∧ w ≤ 2000 := by
    simp only [List.mem_cons, List.not_mem_nil, or_false] at hy
    rcases hy with rfl | rfl | rfl | rfl
    · exact ⟨1, rfl, by decide, by decide⟩
    · exact ⟨4, rfl, by decide, by decide⟩
    · exact ⟨span, rfl, by omega, by omega⟩
    · exact ⟨2 * span, rfl, by omega, by omega⟩
  obtain ⟨w, rfl, w1, w2⟩ := hw
  exists "nx"
  refine wss_cons (ws_for C (wi_range1 C h1 (by decide +kernel) (we_pick C g bd.r (by decide +kernel) (by exists "ea") dk2 (by omega) (by omega) (by omega) fun r zs r1 r2 dk3 => ⟨r, rfl, Int.le_trans (by decide) r1, Int.lt_trans r2 (by omega), fun i G' O' => ∃ (log : List Ev) (time : Int) (us : List D) (g6 g7 g8 : Option D), G' = [some (.obj a), some (.int span), some (.int many), some (.tup (log.map eEv)), some (.int time), some (.int w), g6, g7, g8] ∧
    O' = [(a, .lst us)] ∧ Gd log span time ∧ 0 ≤ time ∧ time ≤ 10000 ∧ log.length = i ∧ Dk (n + 3 + 6 * i) us, ⟨[], t, zs, _, _, _, rfl, rfl, gd_nil, t1, by omega, rfl, dk3.mono (by omega)⟩, fun _ _ _ _ _ p hp => (List.not_mem_nil hp).elim, ?_, ?_⟩)))
  · rintro i d G' O' hd ⟨log, time, us, g6, g7, g8, rfl, rfl, gd, t3, t4, hl, dk4⟩
    have hi : i < r.toNat := by
      have := (List.getElem?_eq_some_iff.mp hd).1
      rw [List.length_map, List.length_range] at this
      exact this
    have hd' : d = .int (0 + (i : Int)) := by
      rw [List.getElem?_map, List.getElem?_range hi] at hd
      exact (Option.some.inj hd).symm
    subst hd'
    have hi' : (i : Int) < 30 := by omega
    exists "t1"
    refine wss_cons (ws_set C (by exists "sa") (by decide +kernel) (we_min2 C h2 (by decide +kernel) (wa_cons (we_pv (by exists "ev") (wa_cons (we_op op_add dop_I0 (we_pv (by exists "ev") (we_pick C g bd.r (by decide +kernel) (by exists "ea") dk4 (by omega) (by omega) (by omega) fun r3 vs p1 p2 dk5 => ⟨_, _, rfl, rfl, trivial, wa_nil ⟨_, _, rfl, ?_⟩⟩)))))))) 
    exists "nx"
    have hT : ∃ T : Int, (if time + r3 < 10000 then time + r3 else 10000) = T ∧ time ≤ T ∧ T ≤ 10000 := ⟨_, rfl, by split <;> omega, by split <;> omega⟩
    obtain ⟨T, hT, T1, T2⟩ := hT
    rw [hT]
    have gd' := gd.later T1
    refine wss_cons (ws_set C (by exists "sa") (by decide +kernel) (we_pv (pv_call C g3 bd.r (by decide +kernel) (by exists "ea") fun Φ Ψ z => ⟨log, span, T, rfl, by omega, z⟩) ?_))
    exists "nx"
    have hb := gd'.bound (by omega) s1
    generalize hS : sumK (lotsF log span T).1 = S at hb
    refine wss_one (ws_if (WT.mono (Φ := fun c O' => ∃ us', O' = [(a, .lst us')] ∧ Dk (n + 3 + 6 * i + 2) us' ∧ (c = true → 0 < S)) (WW.t (ww_and (wt_pv (pt_gt (by exists "ev") (by exists "ev")) (if_d (fun hq => ww_and1 (wt_cmp op_eq dop_eq rfl (we_pick C g bd.r (by decide +kernel) (by exists "ea") dk5 (by omega) (by decide) (by decide) fun r4 ks p3 p4 dk6 => we_pv (by exists "ev") ⟨_, rfl, _, rfl, ks, rfl, dk6.mono (by omega), fun _ => hq⟩))) (fun hq => ⟨vs, rfl, dk5.mono (by omega), fun h => by cases h⟩))))) ?_))
    rintro c O' ⟨us', rfl, dk6, hc⟩
    cases c with
    | true =>
      have hS0 := hc rfl
      rw [if_pos rfl]
      refine wss_cons (ws_set C (by exists "sa") (by decide +kernel) (we_frz (wn_lst (wa_cons (we_pv (by exists "ev") (wa_cons (we_op op_add dop_I0 (we_pv pv_int (we_pick C g bd.r (by decide +kernel) (by exists "ea") dk6 (by omega) (by omega) (by omega) fun r5 k1 p5 p6 dk7 => ⟨_, _, rfl, rfl, trivial, wa_cons (we_op op_add dop_I0 (we_pv pv_int (we_pick C g bd.r (by decide +kernel) (by exists "ea") dk7 (by omega) (by omega) (by omega) fun r6 k2 p7 p8 dk8 => ⟨_, _, rfl, rfl, trivial, wa_cons (we_pv (by exists "ev") (wa_nil ⟨Nat.le_of_ble_eq_true rfl, ?_⟩))⟩)))⟩)))))))))
      exists "nx"
      refine wss_one (ws_set C (by exists "sa") (by decide +kernel) (we_catT (we_pv (by exists "ev") (we_tup (wa_cons (we_tup (wa_cons (we_pv (by exists "ev") (wa_cons (we_pv (by exists "ev") (wa_cons (we_min2 C h2 (by decide +kernel) (wa_cons (we_pv (by exists "ev") (wa_cons (we_one C g2 bd.r (by decide +kernel) (wa_pv (by exists "ea") ⟨a, k2, _, _, [], rfl, rfl, dk8, by omega, (fun h => by cases h), (by exact Nat.le_of_ble_eq_true rfl), fun y k3 hy dk9 => ?_⟩)))))))))))))))))
      have hv : ∃ v : Int, y = .int v ∧ 1 ≤ v ∧ v ≤ S := by
        simp only [List.mem_cons, List.not_mem_nil, or_false] at hy
        rcases hy with rfl | rfl | rfl | rfl
        · exact ⟨S, rfl, by omega, by omega⟩
        · exact ⟨1 + r5, rfl, by omega, by omega⟩
        · exact ⟨1 + r6, rfl, by omega, by omega⟩
        · exact ⟨1, rfl, by omega, by omega⟩
      obtain ⟨v, rfl, v1, v2⟩ := hv
      have hV : ∃ V : Int, (if v < 1000000 then v else 1000000) = V ∧ 1 ≤ V ∧ V ≤ 1000000 ∧ V ≤ S := ⟨_, rfl, by split <;> omega, by split <;> omega, by split <;> omega⟩
      obtain ⟨V, hV, V1, V2, V3⟩ := hV
      refine wa_nil ⟨_, _, rfl, wa_nil ⟨Nat.le_of_ble_eq_true rfl, wa_nil ⟨Nat.le_of_ble_eq_true rfl, _, _, rfl, rfl, by rw [List.length_map]; show log.length + 1 ≤ 1000000; omega, ?_⟩⟩⟩
      have hV' : (if v < 10 ^ (6 : Int).toNat then v else 10 ^ (6 : Int).toNat) = V := hV
      rw [hV']
      refine ⟨log ++ [(false, T, V)], T, k3, some (.int (0 + (i : Int))), some (.int S), some (.lst [.int S, .int (1 + r5), .int (1 + r6), .int 1]), ?_, rfl, gd'.spend (by omega) T2 V1 V2 s1 (by rw [hS]; exact V3), by omega, T2, by rw [List.length_append, List.length_singleton, hl], dk9.mono (by omega)⟩
      rw [List.map_append]
      rfl
    | false =>
      rw [if_neg Bool.false_ne_true]
      refine wss_one (ws_set C (by exists "sa") (by decide +kernel) (we_catT (we_pv (by exists "ev") (we_tup (wa_cons (we_tup (wa_cons (we_pv (by exists "ev") (wa_cons (we_pv (by exists "ev") (wa_cons (we_op op_add dop_I0 (we_pv pv_int (we_call C g bd.r takes_no (by decide +kernel) (wa_cons (we_pv (by exists "ev") (wa_cons (we_one C g2 bd.r (by decide +kernel) (wa_pv (by exists "ea") ⟨a, us', _, _, [], rfl, rfl, dk6, by omega, (fun h => by cases h), (by exact Nat.le_of_ble_eq_true rfl), fun y k3 hy dk9 => ?_⟩)))))))))))))))))))
      have hv : ∃ v : Int, y = .int v ∧ 1 ≤ v ∧ v ≤ 1000000 := by
        simp only [List.mem_cons, List.not_mem_nil, or_false] at hy
        rcases hy with rfl | rfl | rfl
        · exact ⟨3, rfl, by decide, by decide⟩
        · exact ⟨20, rfl, by decide, by decide⟩
        · exact ⟨1000000, rfl, by decide, by decide⟩
      obtain ⟨v, rfl, v1, v2⟩ := hv
      refine wa_nil ⟨[(a, .lst k3)], [], List.Perm.refl _, a, k3, _, v, rfl, rfl, dk9, by omega, by omega, by omega, fun r7 k4 p9 p10 dk10 => ⟨_, _, rfl, rfl, trivial, wa_nil ⟨Nat.le_of_ble_eq_true rfl, wa_nil ⟨Nat.le_of_ble_eq_true rfl, _, _, rfl, rfl, by rw [List.length_map]; show log.length + 1 ≤ 1000000; omega, ?_⟩⟩⟩⟩
      refine ⟨log ++ [(true, T, 1 + r7)], T, k4, some (.int (0 + (i : Int))), some (.int S), g8, ?_, rfl, gd'.earn (by omega) T2 (by omega) (by omega) s1, by omega, T2, by rw [List.length_append, List.length_singleton, hl], dk10.mono (by omega)⟩
      rw [List.map_append]
      rfl
  · rintro G' O' ⟨log, time, us, g6, g7, g8, rfl, rfl, gd, t3, t4, hl, dk4⟩
    rw [List.length_map, List.length_range] at hl dk4
    refine wss_one (ws_ret (we_pv (by exists "ev") ?_))
    exact q log us (gd.later t4) (by omega) (dk4.mono (by omega))
/-! ### same -/
def sortT : String → Int
  | "bool" => 1
  | "int" => 2
  | "str" => 3
  | "list" => 4
  | "tuple" => 5
  | _ => 6
def spSort : DSp := fun ds O Φ _ => ∃ (d : D) (t : String), ds = [d] ∧ TyD O d t ∧ Φ (.int (sortT t)) O
theorem sc_sort : FnScope ["_law_thing"] ["_law_thing"] (defScope (topS 43)) := ⟨rfl, rfl, rfl, by decide +kernel, rfl, by decide +kernel, by decide +kernel⟩
theorem ok_sort {M : Mach} {f : Addr} {fd : FuncData} {k : Nat} (F : Fun M.K "_law_sort" "_law_sort" (topS 43) f fd) (h1 : M.mg "isinstance" = none) (h2 : M.mg "bool" = none) (h3 : M.mg "int" = none) (h4 : M.mg "str" = none) (h5 : M.mg "list" = none) (h6 : M.mg "tuple" = none) :
    FnOk M.P M.w M.K M.mg M.base (L2N.CX M.P M.w) (k + 1) f fd ["_law_thing"] (liftSp M.K spSort) := by
  refine fn_body (N := ["_law_thing"]) (vn := ["_law_thing"]) (gl := ["isinstance", "bool", "int", "str", "list", "tuple"]) F sc_sort (by decide +kernel) (fun ds O Φ Ψ h => ?_) fun X B ds O Φ Ψ bd h => ?_
  · obtain ⟨_, _, rfl, _⟩ := h
    rfl
  obtain ⟨d, t, rfl, ty, q⟩ := h
  have C := bd.C
  change WSs _ _ [some _] _ _ _
  cases ty with
  | bl b => exact wss_cons (ws_ifv (c := true) (pt_ofv (by exists "ev")) (fun _ => wss_one (ws_ret (we_pv pv_int q))) fun h => by cases h)
  | int i => exact wss_cons (ws_ifv (c := false) (pt_ofv (by exists "ev")) (fun h => by cases h) fun _ => wss_nil (wss_cons (ws_ifv (c := true) (pt_ofv (by exists "ev")) (fun _ => wss_one (ws_ret (we_pv pv_int q))) fun h => by cases h)))
  | str s => exact wss_cons (ws_ifv (c := false) (pt_ofv (by exists "ev")) (fun h => by cases h) fun _ => wss_nil (wss_cons (ws_ifv (c := false) (pt_ofv (by exists "ev")) (fun h => by cases h) fun _ => wss_nil (wss_cons (ws_ifv (c := true) (pt_ofv (by exists "ev")) (fun _ => wss_one (ws_ret (we_pv pv_int q))) fun h => by cases h)))))
  | lst xs => exact wss_cons (ws_ifv (c := false) (pt_ofv (by exists "ev")) (fun h => by cases h) fun _ => wss_nil (wss_cons (ws_ifv (c := false) (pt_ofv (by exists "ev")) (fun h => by cases h) fun _ => wss_nil (wss_cons (ws_ifv (c := false) (pt_ofv (by exists "ev")) (fun h => by cases h) fun _ => wss_nil (wss_cons (ws_ifv (c := true) (pt_ofv (by exists "ev")) (fun _ => wss_one (ws_ret (we_pv pv_int q))) fun h => by cases h)))))))
  | own hm => exact wss_cons (ws_ifv (c := false) (pt_ofv (by exists "ev")) (fun h => by cases h) fun _ => wss_nil (wss_cons (ws_ifv (c := false) (pt_ofv (by exists "ev")) (fun h => by cases h) fun _ => wss_nil (wss_cons (ws_ifv (c := false) (pt_ofv (by exists "ev")) (fun h => by cases h) fun _ => wss_nil (wss_cons (ws_ifv (c := true) (pt_ofv (by exists "ev")) (fun _ => wss_one (ws_ret (we_pv pv_int q))) fun h => by cases h)))))))
  | tup xs => exact wss_cons (ws_ifv (c := false) (pt_ofv (by exists "ev")) (fun h => by cases h) fun _ => wss_nil (wss_cons (ws_ifv (c := false) (pt_ofv (by exists "ev")) (fun h => by cases h) fun _ => wss_nil (wss_cons (ws_ifv (c := false) (pt_ofv (by exists "ev")) (fun h => by cases h) fun _ => wss_nil (wss_cons (ws_ifv (c := false) (pt_ofv (by exists "ev")) (fun h => by cases h) fun _ => wss_nil (wss_one (ws_ret (we_pv (PEv.to (pv_if (ca := true) (d2 := .non) (pt_ofv (by exists "ev")) (fun _ => pv_int) fun h => by cases h) rfl) q))))))))))
  | non => exact wss_cons (ws_ifv (c := false) (pt_ofv (by exists "ev")) (fun h => by cases h) fun _ => wss_nil (wss_cons (ws_ifv (c := false) (pt_ofv (by exists "ev")) (fun h => by cases h) fun _ => wss_nil (wss_cons (ws_ifv (c := false) (pt_ofv (by exists "ev")) (fun h => by cases h) fun _ => wss_nil (wss_cons (ws_ifv (c := false) (pt_ofv (by exists "ev")) (fun h => by cases h) fun _ => wss_nil (wss_one (ws_ret (we_pv (PEv.to (pv_if (ca := false) (d1 := .non) (pt_ofv (by exists "ev")) (fun h => by cases h) fun _ => pv_int) rfl) q))))))))))
/-- plain values -/
inductive Sca : D → String → Prop
  | non : Sca .non "NoneType"
  | bl (b : Bool) : Sca (.bl b) "bool"
  | int (i : Int) : Sca (.int i) "int"
  | str (x : Str) : Sca (.str x) "str"
theorem Sca.ty {O : Own} {d : D} {t : String} (h : Sca d t) : TyD O d t := by
  cases h
  · exact .non
  · exact .bl _
  · exact .int _
  · exact .str _
def sameS : D → D → Bool
  | .int i, .int j => decide (i = j)
  | .str i, .str j => decide (i = j)
  | .bl i, .bl j => decide (i = j)
  | .non, .non => true
  | _, _ => false
def spSameS : DSp := fun ds O Φ _ => ∃ (d e : D) (t u : String), ds = [d, e] ∧ Sca d t ∧ Sca e u ∧ Φ (.bl (sameS d e)) O
abbrev nSame : List Str := ["_law_told", "_law_due", "_law_k", "_law_part"]
theorem sc_same : FnScope nSame ["_law_told", "_law_due"] (defScope (topS 44)) := ⟨rfl, rfl, rfl, by decide +kernel, rfl, by decide +kernel, by decide +kernel⟩
theorem sort_eqS {d e : D} {t u : String} (h1 : Sca d t) (h2 : Sca e u) : (sortT t ≠ sortT u → sameS d e = false) ∧ (sortT t = sortT u → eqS d e = some (sameS d e)) ∧ (sortT t ≤ 3 ∨ sortT t = 6) := by
  cases h1 <;> cases h2 <;> refine ⟨fun h => ?_, fun h => ?_, ?_⟩ <;> first | rfl | exact absurd rfl h | exact absurd h (by decide) | decide
theorem ok_sameS {M : Mach} {f : Addr} {fd : FuncData} {k : Nat} (F : Fun M.K "_law_same" "_law_same" (topS 44) f fd) (g : GFn M "_law_sort" k spSort) :
    FnOk M.P M.w M.K M.mg M.base (L2N.CX M.P M.w) (k + 1) f fd ["_law_told", "_law_due"] (liftSp M.K spSameS) := by
  refine fn_body (N := nSame) (vn := ["_law_told", "_law_due"]) (gl := ["_law_sort"]) F sc_same (by decide +kernel) (fun ds O Φ Ψ h => ?_) fun X B ds O Φ Ψ bd h => ?_
  · obtain ⟨_, _, _, _, rfl, _⟩ := h
    rfl
  obtain ⟨d, e, t, u, rfl, h1, h2, q⟩ := h
  have C := bd.C
  obtain ⟨k1, k2, k3⟩ := sort_eqS h1 h2
  have cd : ∀ {G : Sl} {pos p1 p2 : Pos}, VarAt nSame G "_law_told" d → PEv X B G O (.Call (.Name "_law_sort" p1) [.Name "_law_told" p2] [] pos) (.int (sortT t)) := fun hv => pv_call C g bd.r (by decide +kernel) (pa_consv (pv_var C hv (by decide +kernel)) pa_nilv) fun Φ Ψ z => ⟨_, _, rfl, h1.ty, z⟩
  have ce : ∀ {G : Sl} {pos p1 p2 : Pos}, VarAt nSame G "_law_due" e → PEv X B G O (.Call (.Name "_law_sort" p1) [.Name "_law_due" p2] [] pos) (.int (sortT u)) := fun hv => pv_call C g bd.r (by decide +kernel) (pa_consv (pv_var C hv (by decide +kernel)) pa_nilv) fun Φ Ψ z => ⟨_, _, rfl, h2.ty, z⟩
  change WSs _ _ [some _, some _, none, none] _ _ _
  by_cases hs : sortT t = sortT u
  · refine wss_cons (ws_ifv (c := false) (PTv.to (pt_ne (cd (by exists "va")) (ce (by exists "va")) rfl) (by rw [hs]; simp)) (fun h => by cases h) fun _ => wss_nil ?_)
    exists "nx"
    refine wss_cons (ws_ifv (c := false) (PWv.t (PWv.to (pwv_and (pt_gt (cd (by exists "va")) pv_int) fun _ => pwv_and1 (pt_lt (cd (by exists "va")) pv_int)) ?_)) (fun h => by cases h) fun _ => wss_nil ?_)
    · rcases k3 with h | h
      · rw [decide_eq_false (by omega : ¬ (3 : Int) < sortT t)]; rfl
      · rw [h]; rfl
    exists "nx"
    exact wss_one (ws_ret (we_pv (pv_eq (by exists "ev") (by exists "ev") (k2 hs)) q))
  · refine wss_cons (ws_ifv (c := true) (PTv.to (pt_ne (cd (by exists "va")) (ce (by exists "va")) rfl) (by rw [decide_eq_false hs]; rfl)) (fun _ => wss_one (ws_ret (we_pv pv_bl ?_))) fun h => by cases h)
    rw [k1 hs] at q
    exact q
theorem same_int (i : Int) : sameS (.int i) (.int i) = true := decide_eq_true rfl
/-! ### first_of -/
def firstF (g : Int → Bool) : Nat → Int → Int → Int
  | 0, lo, _ => lo
  | n + 1, lo, hi => if lo ≤ hi then (if g ((lo + hi) / 2) = true then firstF g n lo ((lo + hi) / 2 - 1) else firstF g n ((lo + hi) / 2 + 1) hi) else lo
abbrev firstI (g : Int → Bool) (lo hi : Int) : Int := firstF g (hi + 1 - lo).toNat lo hi
theorem firstF_fuel (g : Int → Bool) : ∀ (n m : Nat) (lo hi : Int), (hi + 1 - lo).toNat ≤ n → (hi + 1 - lo).toNat ≤ m → firstF g n lo hi = firstF g m lo hi
  | 0, 0, _, _, _, _ => rfl
  | 0, m + 1, lo, hi, h, _ => by
    rw [firstF, firstF, if_neg (by omega)]
  | n + 1, 0, lo, hi, _, h => by
    rw [firstF, firstF, if_neg (by omega)]
  | n + 1, m + 1, lo, hi, h1, h2 => by
    rw [firstF, firstF]
    by_cases c : lo ≤ hi
    · rw [if_pos c, if_pos c, firstF_fuel g n m lo ((lo + hi) / 2 - 1) (by omega) (by omega), firstF_fuel g n m ((lo + hi) / 2 + 1) hi (by omega) (by omega)]
    · rw [if_neg c, if_neg c]
theorem firstI_step (g : Int → Bool) {lo hi : Int} (h : lo ≤ hi) : firstI g lo hi = if g ((lo + hi) / 2) = true then firstI g lo ((lo + hi) / 2 - 1) else firstI g ((lo + hi) / 2 + 1) hi := by
  unfold firstI
  obtain ⟨n, e⟩ : ∃ n, (hi + 1 - lo).toNat = n + 1 := ⟨(hi - lo).toNat, by omega⟩
  rw [e, firstF, if_pos h, firstF_fuel g n _ lo ((lo + hi) / 2 - 1) (by omega) (Nat.le_refl _), firstF_fuel g n _ ((lo + hi) / 2 + 1) hi (by omega) (Nat.le_refl _)]
theorem firstI_end (g : Int → Bool) {lo hi : Int} (h : hi < lo) : firstI g lo hi = lo := by
  unfold firstI
  rw [show (hi + 1 - lo).toNat = 0 by omega, firstF]
def domT (g : Int → Bool) : List D → D → Prop := fun ds v => ∃ m : Int, ds = [.int m] ∧ v = .bl (g m)
def domTh (th : Int → Int → Int) : List D → D → Prop := fun ds v => ∃ k t : Int, ds = [.int k, .int t] ∧ v = .int (th k t)
def spFirst (M : Mach) : DSp := fun ds O Φ _ => ∃ (lo hi : Int) (f : Addr) (L : LamW) (cl : List (Str × Addr)) (g : Int → Bool), ds = [.int lo, .int hi, .obj f] ∧ (f, OV.lamc L cl) ∈ O ∧ VFn M 17 f (spFun O (domT g)) ∧ Φ (.int (firstI g lo hi)) O
abbrev nFirst : List Str := ["low", "high", "test", "middle"]
theorem sc_first : FnScope nFirst ["low", "high", "test"] (defScope (topS 34)) := ⟨rfl, rfl, rfl, by decide +kernel, rfl, by decide +kernel, by decide +kernel⟩
theorem ok_first {M : Mach} {f : Addr} {fd : FuncData} {k : Nat} (F : Fun M.K "first_of" "first_of" (topS 34) f fd) (hk : 17 ≤ k) : FnOk M.P M.w M.K M.mg M.base (L2N.CX M.P M.w) (k + 1) f fd ["low", "high", "test"] (liftSp M.K (spFirst M)) := by
  refine fn_body (N := nFirst) (vn := nFirst) (gl := []) F sc_first (by decide +kernel) (fun ds O Φ Ψ h => ?_) fun X B ds O Φ Ψ bd h => ?_
  · obtain ⟨_, _, _, _, _, _, rfl, _⟩ := h
    rfl
  obtain ⟨lo, hi, f, L, cl, g, rfl, hm, Fn, q⟩ := h
  have C := bd.C
  have hr : Room 17 X.A := bd.r.mono hk
  change WSs _ _ [some _, some _, some _, none] _ _ _
  refine wss_cons (ws_while C (fun m G' O' => ∃ (l h : Int) (g3 : Option D), m = (h + 1 - l).toNat ∧ G' = [some (.int l), some (.int h), some (.obj f), g3] ∧ O' = O ∧ firstI g l h = firstI g lo hi) ⟨_, lo, hi, none, rfl, rfl, rfl, rfl⟩ ?_)
  rintro m G' O' ⟨l, h, g3, rfl, rfl, rfl, e1⟩
  refine wt_pv (by exists "et") (if_d (fun hq => ?_) (fun hq => ?_))
  · have hmid : l ≤ (l + h) / 2 ∧ (l + h) / 2 ≤ h := by omega
    rw [firstI_step g hq] at e1
    refine wss_cons (ws_set C (by exists "sa") (by decide +kernel) (we_pv (by exists "ev") ?_))
    exists "nx"
    refine wss_one (ws_ifv (c := g ((l + h) / 2)) (pt_ofv (pv_callV (L := L) (cl := cl) (O0 := O') (Ob := []) C (by exists "va") (by decide +kernel) Fn hr hm (by rw [List.append_nil]) (by exists "ea") ⟨_, rfl, rfl⟩)) (fun hg => ?_) fun hg => ?_)
    · rw [if_pos hg] at e1
      refine wss_one (ws_set C (by exists "sa") (by decide +kernel) (we_pv (by exists "ev") ?_))
      exists "nx"
      exact ⟨_, by omega, _, _, _, rfl, rfl, rfl, e1⟩
    · rw [hg, if_neg Bool.false_ne_true] at e1
      refine wss_one (ws_set C (by exists "sa") (by decide +kernel) (we_pv (by exists "ev") ?_))
      exists "nx"
      exact ⟨_, by omega, _, _, _, rfl, rfl, rfl, e1⟩
  · rw [firstI_end g (by omega)] at e1
    subst e1
    exact wss_one (ws_ret (we_pv (by exists "ev") q))
/-! ### best_range -/
def bestF (th : Int → Int → Int) : List (Int × Int) → Int → Int → Option (Int × Int)
  | [], lo, hi => if lo ≤ hi then some (lo, hi) else none
  | x :: r, lo, hi => bestF th r (firstI (fun k => decide (x.2 ≤ th k x.1)) lo hi) (firstI (fun k => decide (x.2 < th k x.1)) (firstI (fun k => decide (x.2 ≤ th k x.1)) lo hi) hi - 1)
def eOP : Option (Int × Int) → D
  | none => .non
  | some r => .tup [.int r.1, .int r.2]
abbrev qBest : Str := "best_range.<locals>.<lambda>"
def spBest (M : Mach) (Pb : Addr) : DSp := fun ds O Φ _ => ∃ (fc ft : Addr) (seen : List (Int × Int)) (most : Int) (Oc : Own) (L1 L2 : LamW) (cl1 cl2 : List (Str × Addr)) (g : Int → Bool) (th : Int → Int → Int), ds = [.obj fc, .obj ft, .tup (seen.map ePr), .int most] ∧ O = (Pb, .tab qBest) :: Oc ∧ seen.length ≤ 1000 ∧
  (fc, OV.lamc L1 cl1) ∈ Oc ∧ (ft, OV.lamc L2 cl2) ∈ Oc ∧ VFn M 16 fc (spFun Oc (domT g)) ∧ VFn M 16 ft (spFun Oc (domTh th)) ∧ Φ (eOP (bestF th seen (firstI g 1 most) most)) O
abbrev nBest : List Str := ["covered", "there", "seen", "most", "low", "high", "time", "number", "first"]
theorem sc_best : FnScope nBest ["covered", "there", "seen", "most"] (defScope (topS 35)) := ⟨rfl, rfl, rfl, by decide +kernel, rfl, by decide +kernel, by decide +kernel⟩
theorem ok_best {M : Mach} {f : Addr} {fd : FuncData} {k : Nat} {c P : Addr} (F : Fun M.K "best_range" "best_range" (topS 35) f fd) (gf : GFn M "first_of" k (spFirst M)) (hcode : fd.code = .ref c) (TB : LamX.TabB M.base M.mg c P) : FnOk M.P M.w M.K M.mg M.base (L2N.CX M.P M.w) (k + 1) f fd ["covered", "there", "seen", "most"] (liftSp M.K (spBest M P)) := by
  refine fn_bodyC (N := nBest) (vn := nBest) (gl := ["first_of"]) F sc_best (by decide +kernel) (fun ds O Φ Ψ h => ?_) fun X B ds O Φ Ψ bd env h => ?_
  · obtain ⟨_, _, _, _, _, _, _, _, _, _, _, rfl, _⟩ := h
    rfl
  obtain ⟨fc, ft, seen, most, Oc, L1, L2, cl1, cl2, g, th, rfl, rfl, hsl, m1, m2, V1, V2, q⟩ := h
  obtain ⟨Ln, env⟩ := env
  have hq : X.env.qual ++ "<lambda>" = qBest := by
    rw [env]
    show (envOfC "best_range" (defScope (topS 35)) Ln f fd.code).qual ++ "<lambda>" = qBest
    rfl
  have hcode' : X.env.code = .ref c := by
    rw [env]
    exact hcode
  have C := bd.C
  have hmP : ∀ {O' : Own}, (P, OV.tab (X.env.qual ++ "<lambda>")) ∈ (P, OV.tab qBest) :: O' := by
    rw [hq]
    exact List.mem_cons_self
  change WSs _ _ [some _, some _, some _, some _, none, none, none, none, none] _ _ _
  have V1' := V1.mono (show 16 ≤ 17 by decide)
  refine wss_cons ?_
  exists "p2"
  refine wa_pv (d := [.int (firstI g 1 most), .int most]) (pa_consv (pv_callP (Oa := Oc) (Ob := [(P, _)]) (v := .int (firstI g 1 most)) (List.perm_append_singleton _ _).symm C gf bd.r (by decide +kernel) (by exists "ea") fun Φ' Ψ' z => ⟨1, most, fc, L1, cl1, g, rfl, m1, V1', z⟩) (by exists "ea")) ⟨_, _, rfl, ?_⟩
  exists "nx"
  refine wss_cons (ws_for C (wi_v (wiv_tup (ds := seen.map ePr) (by exists "ev")) ⟨fun i G' O' => ∃ (lo hi : Int) (g6 g7 g8 : Option D), G' = [some (.obj fc), some (.obj ft), some (.tup (seen.map ePr)), some (.int most), some (.int lo), some (.int hi), g6, g7, g8] ∧ O' = (P, .tab qBest) :: Oc ∧ bestF th (seen.drop i) lo hi = bestF th seen (firstI g 1 most) most,
    ⟨_, _, _, _, _, rfl, rfl, rfl⟩, fun _ _ _ _ _ p hp => (List.not_mem_nil hp).elim, ?_, ?_⟩))
  · rintro i d G' O' hd ⟨lo, hi, g6, g7, g8, rfl, rfl, e1⟩
    obtain ⟨⟨t, n⟩, hx, rfl, hdr⟩ := map_at hd
    rw [hdr, bestF] at e1
    dsimp only at e1
    exists "t2"
    -- the first with so much
    have hx : ∀ {lo hi : Int} {g8 : Option D}, ∀ q ∈ ([("there", .obj ft), ("time", .int t), ("number", .int n)] : NDs), VarAt nBest [some (.obj fc), some (.obj ft), some (.tup (seen.map ePr)), some (.int most), some (.int lo), some (.int hi), some (.int t), some (.int n), g8] q.1 q.2 := fun {lo hi g8} q hq => by
      simp only [List.mem_cons, List.not_mem_nil, or_false] at hq
      rcases hq with rfl | rfl | rfl <;> exists "va"
    refine wss_cons (ws_set C (by exists "sa") (by decide +kernel) (we_callC ["there", "time", "number"] [("there", .obj ft), ("time", .int t), ("number", .int n)] C gf bd.r (by decide +kernel) hx rfl (by decide +kernel) (by decide +kernel) (wa_cons (we_pv (by exists "ev") (wa_cons (we_pv (by exists "ev") (wa_cons (we_lamC C TB hcode' hmP (by decide +kernel) fun f1 => wa_nil fun ca co lc => ?_))))))))
    refine ⟨_, _, .int (firstI (fun k => decide (n ≤ th k t)) lo hi), permA, fun Φ' Ψ' z => ⟨lo, hi, f1, _, _, _, rfl, List.mem_append_right _ List.mem_cons_self, ?_, z⟩, ?_⟩
    · refine vfn_clo (k := 16) (ps := ["k"]) (gl := []) lc ["there", "time", "number"] ["k", "there", "time", "number"] [("there", .obj ft), ("time", .int t), ("number", .int n)] rfl rfl (by decide +kernel) (by decide +kernel) (fun _ _ _ _ us hl => match us, hl with | [_], _ => rfl) (fun q hq => List.mem_map.mpr ⟨q, hq, rfl⟩) (List.Perm.refl _) List.mem_cons_self (fun ds v ⟨m, e, _⟩ => by rw [e] <;> rfl) fun X' B' ds v ⟨m, e1, e2⟩ lb => ?_
      subst e1 e2
      have C' := lb.C
      change PEv X' B' [some (.int m), some (.obj ft), some (.int t), some (.int n)] _ _ _
      exact pv_ge (pv_callV (L := L2) (cl := cl2) (O0 := Oc) (Ob := [(f1, _)]) C' (by exists "va") (by decide +kernel) V2 lb.r (List.mem_cons_of_mem _ m2) (List.perm_append_singleton _ _).symm (by exists "ea") ⟨m, t, rfl, rfl⟩) (by exists "ev")
    exists "nx"
    have hmP2 : ∀ {p1 : Addr × OV} {O' : Own}, (P, OV.tab (X.env.qual ++ "<lambda>")) ∈ p1 :: (P, OV.tab qBest) :: O' := fun {p1 O'} => List.mem_cons_of_mem _ hmP
    refine wss_cons (ws_set C (by exists "sa") (by decide +kernel) (we_op op_sub dop_I0 (we_callC ["there", "time", "number"] [("there", .obj ft), ("time", .int t), ("number", .int n)] C gf bd.r (by decide +kernel) hx rfl (by decide +kernel) (by decide +kernel) (wa_cons (we_pv (by exists "ev") (wa_cons (we_pv (by exists "ev") (wa_cons (we_lamC C TB hcode' hmP2 (by decide +kernel) fun f2 => wa_nil fun ca co lc => ?_)))))))))
    refine ⟨_, _, .int (firstI (fun k => decide (n < th k t)) (firstI (fun k => decide (n ≤ th k t)) lo hi) hi), permB, fun Φ' Ψ' z => ⟨_, hi, f2, _, _, _, rfl, List.mem_append_right _ List.mem_cons_self, ?_, z⟩, we_pv pv_int ⟨_, _, rfl, rfl, trivial, ?_⟩⟩
    · refine vfn_clo (k := 16) (ps := ["k"]) (gl := []) lc ["there", "time", "number"] ["k", "there", "time", "number"] [("there", .obj ft), ("time", .int t), ("number", .int n)] rfl rfl (by decide +kernel) (by decide +kernel) (fun _ _ _ _ us hl => match us, hl with | [_], _ => rfl) (fun q hq => List.mem_map.mpr ⟨q, hq, rfl⟩) (List.Perm.refl _) List.mem_cons_self (fun ds v ⟨m, e, _⟩ => by rw [e] <;> rfl) fun X' B' ds v ⟨m, e1, e2⟩ lb => ?_
      subst e1 e2
      have C' := lb.C
      change PEv X' B' [some (.int m), some (.obj ft), some (.int t), some (.int n)] _ _ _
      exact pv_gt (pv_callV (L := L2) (cl := cl2) (O0 := Oc) (Ob := [(f2, _)]) C' (by exists "va") (by decide +kernel) V2 lb.r (List.mem_cons_of_mem _ m2) (List.perm_append_singleton _ _).symm (by exists "ea") ⟨m, t, rfl, rfl⟩) (by exists "ev")
    exists "nx"
    refine wss_one (ws_less (ws_set C (by exists "sa") (by decide +kernel) (we_pv (by exists "ev") ?_)))
    exact ⟨(P, .tab qBest) :: Oc, List.Sublist.cons _ (List.Sublist.cons _ (List.Sublist.refl _)), _, _, _, _, _, rfl, rfl, e1⟩
  · rintro G' O' ⟨lo, hi, g6, g7, g8, rfl, rfl, e1⟩
    rw [List.length_map, List.drop_length, bestF] at e1
    refine wss_one (ws_ret (we_pv (PEv.to (pv_if (ca := decide (lo ≤ hi)) (by exists "et") (fun _ => by exists "ev") fun _ => by exists "ev") ?_) q))
    rw [← e1]
    by_cases c : lo ≤ hi
    · rw [decide_eq_true c, if_pos rfl, if_pos c] <;> rfl
    · rw [decide_eq_false c, if_neg Bool.false_ne_true, if_neg c] <;> rfl
/-! ### the name of an exception -/
abbrev nNameOf : List Str := ["_law_e", "_law_matching", "_law_words", "_law_found", "_law_word", "_law_good"]
abbrev xNames : List Str := ["InvalidLog", "InvalidLife", "InvalidTime", "InvalidAmount", "InvalidIndex", "InvalidChoice", "InvalidSeen", "InvalidNumber", "NotEnough", "NothingToUndo", "Refused", "TooMany"]
abbrev xWords : List Str := ["Log", "Life", "Time", "Amount", "Index", "Choice", "Seen", "Number", "Enough", "Undo", "Refused", "Many"]
abbrev xGlob : List Str := "isinstance" :: "zip" :: "ValueError" :: xNames
def exName (f : Str → Bool) : Str := Txt.join "" (Hz.kept xWords (xNames.map f)) ++ "+"
/-- the class at D: which of the names it comes under -/
structure Named (M : Mach) (D : Addr) (f : Str → Bool) : Prop where
  exc : ExcC M.K D
  is : ∀ n ∈ xNames, ∃ c, M.mg n = some (.ref c) ∧ PySem.W.kitOne M.K (.ref D) (.ref c) = some (f n)
  ve : PySem.W.kitOne M.K (.ref D) (.type "ValueError") = some true
  short : ((Hz.kept xWords (xNames.map f)).map (·.length)).sum ≤ 500 ∧ (Txt.join "" (Hz.kept xWords (xNames.map f))).length ≤ 500
def spNameOf (M : Mach) : Hz.SpH := fun p vs H Q _ => ∃ (D : Addr) (f : Str → Bool), vs = [.ref p.1] ∧ p.2.cls = .ref D ∧ Hz.DictAt H p.2.dict ∧ (∃ us, p.2.data = .fields us) ∧ Named M D f ∧ ∀ H', Hz.Ext H H' → Q (.str (exName f)) H'
theorem sc_nameof : FnScope nNameOf ["_law_e"] (defScope (topS 40)) := ⟨rfl, rfl, rfl, by decide +kernel, rfl, by decide +kernel, by decide +kernel⟩
theorem ok_nameof {M : Mach} {f : Addr} {fd : FuncData} {k : Nat} (F : Fun M.K "_law_name_of" "_law_name_of" (topS 40) f fd) (h1 : M.mg "isinstance" = none) (h2 : M.mg "zip" = none) (h3 : M.mg "ValueError" = none) : Hz.FnHp M (k + 1) f fd ["_law_e"] (spNameOf M) := by
  refine Hz.fnHp F sc_nameof fun X p vs H Q E hM hN hS hpn hot hr h => ⟨_, pss_sem, ?_⟩
  obtain ⟨D, g, rfl, hc, hd, hf, nm, q⟩ := h
  subst hM
  have hp : p ∈ X.pn := by rw [hpn]; exact List.mem_cons_self
  have nd : X.N.Nodup := by rw [hN]; decide
  have lk : ∀ x ∈ nNameOf.take 4, X.env.scope.names.lookup x = some .local := by rw [hS]; decide +kernel
  have gl : ∀ x ∈ xGlob, Gl X x := by
    intro x hx
    show X.env.scope.names.lookup x = _
    rw [hS]
    exact (by decide +kernel : ∀ x ∈ xGlob, (defScope (topS 40)).names.lookup x = some .globalImplicit) x hx
  have he : ∀ {σ : L2.St} {H : Hp} {pos : Pos}, σ[0]? = some (some (.ref p.1)) → Hz.ExpIs X σ H (.Name "_law_e" pos) (.ref p.1) := fun e Q q => Hz.h_var (i := 0) (by rw [hN]; rfl) (lk _ (by decide)) (by decide) (by decide) e q
  have hm : ∀ {σ : L2.St} {H : Hp} {pos : Pos} {l : Addr}, σ[1]? = some (some (.ref l)) → Hz.ExpIs X σ H (.Name "_law_matching" pos) (.ref l) := fun e Q q => Hz.h_var (i := 1) (by rw [hN]; rfl) (lk _ (by decide)) (by decide) (by decide) e q
  have hi : ∀ {σ : L2.St} {H : Hp} {p1 p2 p3 pos : Pos} {n : Str}, Hz.DictAt H p.2.dict → n ∈ xNames → (n == ("__debug__" : Str)) = false → σ[0]? = some (some (.ref p.1)) → Hz.ExpIs X σ H (.Call (.Name "isinstance" p1) [.Name "_law_e" p2, .Name n p3] [] pos) (.bl (g n)) := fun {σ H p1 p2 p3 pos n} hd hn dn e => by
    obtain ⟨c, mc, kc⟩ := nm.is n hn
    exact Hz.h_isPD hp nm.exc hc hd hf (gl _ (by decide)) h1 (he e) (gl _ (List.mem_cons_of_mem _ (List.mem_cons_of_mem _ (List.mem_cons_of_mem _ hn)))) mc dn kc rfl rfl
  have three : ∀ {σ : L2.St} {H : Hp} {n1 n2 n3 : Str} {a1 a2 a3 a4 b1 b2 b3 b4 c1 c2 c3 c4 : Pos}, Hz.DictAt H p.2.dict → n1 ∈ xNames → n2 ∈ xNames → n3 ∈ xNames → (n1 == ("__debug__" : Str)) = false → (n2 == ("__debug__" : Str)) = false → (n3 == ("__debug__" : Str)) = false → σ[0]? = some (some (.ref p.1)) →
      Hz.ArgsAre X σ H [.Call (.Name "isinstance" a1) [.Name "_law_e" a2, .Name n1 a3] [] a4, .Call (.Name "isinstance" b1) [.Name "_law_e" b2, .Name n2 b3] [] b4, .Call (.Name "isinstance" c1) [.Name "_law_e" c2, .Name n3 c3] [] c4] [.bl (g n1), .bl (g n2), .bl (g n3)] := by
    intro σ H n1 n2 n3 a1 a2 a3 a4 b1 b2 b3 b4 c1 c2 c3 c4 hd h1 h2 h3 d1 d2 d3 e
    exact Hz.args_consP (hi hd h1 d1 e) (Hz.args_consP (hi hd h2 d2 e) (Hz.args_consP (hi hd h3 d3 e) Hz.args_nil rfl) rfl) rfl
  refine Hz.h_set (i := 1) nd (by rw [hN]; rfl) (lk _ (by decide)) (Hz.h_list (three hd (by decide) (by decide) (by decide) (by decide) (by decide) (by decide) rfl) (Nat.le_of_ble_eq_true rfl) fun a1 H1 x1 e1 => ?_)
  refine Hz.h_set (i := 1) nd (by rw [hN]; rfl) (lk _ (by decide)) (Hz.h_more (hm rfl) e1 (three (hd.ext x1) (by decide) (by decide) (by decide) (by decide) (by decide) (by decide) rfl) (Nat.le_of_ble_eq_true rfl) fun a2 H2 x2 e2 => ?_)
  refine Hz.h_set (i := 1) nd (by rw [hN]; rfl) (lk _ (by decide)) (Hz.h_more (hm rfl) e2 (three ((hd.ext x1).ext x2) (by decide) (by decide) (by decide) (by decide) (by decide) (by decide) rfl) (Nat.le_of_ble_eq_true rfl) fun a3 H3 x3 e3 => ?_)
  refine Hz.h_set (i := 1) nd (by rw [hN]; rfl) (lk _ (by decide)) (Hz.h_more (hm rfl) e3 (three (((hd.ext x1).ext x2).ext x3) (by decide) (by decide) (by decide) (by decide) (by decide) (by decide) rfl) (Nat.le_of_ble_eq_true rfl) fun a4 H4 x4 e4 => ?_)
  refine Hz.h_set (i := 2) nd (by rw [hN]; rfl) (lk _ (by decide)) (Hz.h_list (vs := [.str "Log", .str "Life", .str "Time", .str "Amount", .str "Index", .str "Choice", .str "Seen", .str "Number", .str "Enough", .str "Undo", .str "Refused", .str "Many"]) (by repeat (first | exact Hz.args_nil | with_reducible apply Hz.args_str)) (by decide) fun a5 H5 x5 e5 => ?_)
  have e45 : H5 a4 = some (.lst ((xNames.map g).map V.bl)) := x5 _ _ e4
  have hA : ∀ {x1 x2 : Pos}, Hz.ArgsAre X _ H5 [.Name "_law_words" x1, .Name "_law_matching" x2] [.ref a5, .ref a4] := fun {x1 x2} => Hz.args_consP (fun Q q => Hz.h_var (σ := ((((L2.start nNameOf [V.ref p.1]).set 1 (some (.ref a1))).set 1 (some (.ref a2))).set 1 (some (.ref a3))).set 1 (some (.ref a4)) |>.set 2 (some (.ref a5))) (i := 2) (by rw [hN]; rfl) (lk _ (by decide)) (by decide) (by decide) rfl q) (Hz.args_consP (hm rfl) Hz.args_nil rfl) rfl
  refine semSs (pss_cons (Hz.ps_pick (w := "_law_word") (g := "_law_good") (i := 3) (iw := 4) (ig := 5) hot hp nd (by rw [hN, hS]; exact blkOk_by (by decide +kernel)) (by rw [hN]; rfl) (by rw [hN]; rfl) (by decide) (by rw [hS]; decide +kernel) (by rw [hS]; decide +kernel) (gl _ (by decide)) h2 pa_sem (by decide) (by decide) (by decide) (by decide) rfl rfl (by rw [hN]; rfl) (lk _ (by decide))
    (L2.sw_true (by rw [hS]; decide +kernel) (lk _ (by decide)) (by rfl) (by decide +kernel))) pss_sem) (hA _ ⟨a5, a4, xWords, xNames.map g, rfl, e5, e45, rfl, fun a6 H6 x6 n6 e6 => ?_⟩)
  refine Hz.h_ret ?_
  refine Hz.h_add (Hz.h_join (fun Q q => Hz.h_str q) (fun Q q => Hz.h_var (i := 3) (by rw [hN]; rfl) (lk _ (by decide)) (by decide) (by decide) rfl q) (ys := Hz.kept xWords (xNames.map g)) (by rw [e6]) ?_ rfl rfl rfl) (Hz.h_if (Hz.h_isBD (T := "ValueError") hp nm.exc hc ((((((hd.ext x1).ext x2).ext x3).ext x4).ext x5).ext x6) hf (gl _ (by decide)) h1 (he rfl) (gl _ (by decide)) h3 (by rfl) (by decide) (by decide) nm.ve rfl rfl) (fun Q q => Hz.h_str q) (fun _ => rfl)) ?_ _ (q _ fun b o e => x6 _ _ (x5 _ _ (x4 _ _ (x3 _ _ (x2 _ _ (x1 _ _ e))))))
  · exact Nat.le_trans (Nat.add_le_add nm.short.1 (Nat.le_of_eq (Nat.mul_zero _))) (by decide)
  · exact Nat.le_trans (Nat.add_le_add_right nm.short.2 1) (by decide)
/-! ### told, or the name of the exception -/
abbrev nTry : List Str := ["_law_door", "_law_found", "_law_e"]
/-- which clause takes the exceptions of the class at D: the third -/
structure Catch (M : Mach) (D : Addr) : Prop where
  re : ∃ c, M.mg "Refused" = some (.ref c) ∧ PySem.W.exmOne M.K (.ref D) (.ref c) = some false
  ma : ∃ c, M.mg "TooMany" = some (.ref c) ∧ PySem.W.exmOne M.K (.ref D) (.ref c) = some false
  pe : ∃ c, M.mg "PointError" = some (.ref c) ∧ PySem.W.exmOne M.K (.ref D) (.ref c) = some true
/-- the first clause takes it: it has an attribute "index" -/
structure CatchR (M : Mach) (D : Addr) : Prop where
  re : ∃ c, M.mg "Refused" = some (.ref c) ∧ PySem.W.exmOne M.K (.ref D) (.ref c) = some true
  xf : XfC M.K D
  no : PySem.W.findIn M.K (.ref D) "index" = some none
/-- the second clause takes it: it has an attribute "limit" -/
structure CatchM (M : Mach) (D : Addr) : Prop where
  re : ∃ c, M.mg "Refused" = some (.ref c) ∧ PySem.W.exmOne M.K (.ref D) (.ref c) = some false
  ma : ∃ c, M.mg "TooMany" = some (.ref c) ∧ PySem.W.exmOne M.K (.ref D) (.ref c) = some true
  xf : XfC M.K D
  no : PySem.W.findIn M.K (.ref D) "limit" = some none
abbrev exNameI (f : Str → Bool) (i : Int) : Str := exName f ++ toString i
/-- what _law_try tells of an exception with an index -/
def ToldR (M : Mach) (cls : Value) (d : Option Addr) (H : Hp) (z : Str) : Prop := ∃ (D : Addr) (f : Str → Bool) (dd : Addr) (fs : List (Str × V)) (i : Int), cls = .ref D ∧ d = some dd ∧ H dd = some (.xd fs) ∧ fs.lookup ("index" : Str) = some (V.int i) ∧ Named M D f ∧ CatchR M D ∧ i.natAbs.log2 < 1920 ∧ (exName f).length + (toString i : Str).length ≤ 1000 ∧ z = exNameI f i
/-- what _law_try tells of an exception with a limit -/
def ToldM (M : Mach) (cls : Value) (d : Option Addr) (H : Hp) (z : Str) : Prop := ∃ (D : Addr) (f : Str → Bool) (dd : Addr) (fs : List (Str × V)) (i : Int), cls = .ref D ∧ d = some dd ∧ H dd = some (.xd fs) ∧ fs.lookup ("limit" : Str) = some (V.int i) ∧ Named M D f ∧ CatchM M D ∧ i.natAbs.log2 < 1920 ∧ (exName f).length + (toString i : Str).length ≤ 1000 ∧ z = exNameI f i
/-- what _law_try tells of an exception -/
def Told (M : Mach) (cls : Value) (d : Option Addr) (z : Str) : Prop := ∃ D f, cls = .ref D ∧ d = none ∧ Named M D f ∧ Catch M D ∧ z = exName f
def TTtry (M : Mach) : (XK → Hp → VK → Prop) → Hp → VK → Prop := fun tl H Q =>
  tl (fun cls d H' => ∃ z, (Told M cls d z ∨ ToldR M cls d H' z ∨ ToldM M cls d H' z) ∧ ∀ H'', Hz.Ext H' H'' → Q (.str z) H'') H fun v H' => 2 ≤ sizeLine ∧ ∀ p, H' p = none → Q (.ref p) (upd H' p (.tup [.str "told", v]))
theorem sc_try : FnScope nTry ["_law_door"] (defScope (topS 41)) := ⟨rfl, rfl, rfl, by decide +kernel, rfl, by decide +kernel, by decide +kernel⟩
/-- the first clause's suite -/
def tsIdx (M : Mach) : Addr → Value → Option Addr → TS := fun a cls d D σ H => 2 < σ.length → σ[2]? = some (some (.ref a)) ∧ ∃ (D' : Addr) (f : Str → Bool) (dd : Addr) (fs : List (Str × V)) (i : Int), cls = .ref D' ∧ d = some dd ∧ H dd = some (.xd fs) ∧ fs.lookup ("index" : Str) = some (V.int i) ∧ Named M D' f ∧ CatchR M D' ∧ i.natAbs.log2 < 1920 ∧ (exName f).length + (toString i : Str).length ≤ 1000 ∧ ∀ H'', Hz.Ext H H'' → D.nx (σ.set 1 (some (.str (exNameI f i)))) H''
/-- the second clause's suite -/
def tsLim (M : Mach) : Addr → Value → Option Addr → TS := fun a cls d D σ H => 2 < σ.length → σ[2]? = some (some (.ref a)) ∧ ∃ (D' : Addr) (f : Str → Bool) (dd : Addr) (fs : List (Str × V)) (i : Int), cls = .ref D' ∧ d = some dd ∧ H dd = some (.xd fs) ∧ fs.lookup ("limit" : Str) = some (V.int i) ∧ Named M D' f ∧ CatchM M D' ∧ i.natAbs.log2 < 1920 ∧ (exName f).length + (toString i : Str).length ≤ 1000 ∧ ∀ H'', Hz.Ext H H'' → D.nx (σ.set 1 (some (.str (exNameI f i)))) H''
/-- the third clause's suite -/
def tsName (M : Mach) : Addr → Value → Option Addr → TS := fun a cls d D σ H => 2 < σ.length → σ[2]? = some (some (.ref a)) ∧ ∃ D' f, cls = .ref D' ∧ d = none ∧ Named M D' f ∧ ∀ H'', Hz.Ext H H'' → D.nx (σ.set 1 (some (.str (exName f)))) H''
theorem gives_try {X : Cx} {k : Nat} {g f0 : Addr} {cdg : Value} {q : Str} {fd : FuncData} (F : Hz.FnHp (machOf X) k f0 fd ["_law_e"] (spNameOf (machOf X))) (mf : X.mg "_law_name_of" = some (.ref f0)) (kf : PySem.W.keepIn X.K (.ref f0) = true) (bf : Binds X.K fd ["_law_e"] [])
    (cr ct cp : Addr) (m1 : X.mg "Refused" = some (.ref cr)) (m2 : X.mg "TooMany" = some (.ref ct)) (m3 : X.mg "PointError" = some (.ref cp)) (ms : X.mg "str" = none) : Hz.GivesN X k nTry "_law_try" (defScope (topS 41)) g cdg (defBody (topS 41)) "_law_door" q (TTtry (machOf X)) := by
  intro f c' s H Q tl hr act hc h
  generalize hY : (Hz.gotCx X nTry "_law_try" (defScope (topS 41)) g cdg s H).nox = Y
  have eN : Y.N = nTry := by subst hY; rfl
  have eS : Y.env.scope = defScope (topS 41) := by subst hY; rfl
  have nd : Y.N.Nodup := by rw [eN]; decide
  have lk : ∀ x ∈ nTry, Y.env.scope.names.lookup x = some .local := by rw [eS]; decide +kernel
  have never : ∀ {a : Addr} {oe : Obj} {cls : Value} {d : Option Addr} {pn : List (Addr × Obj)} {st : List Stmt}, PSs (Y.suite a ((a, oe) :: pn)) st fun _ _ _ => False := ⟨fun _ _ _ _ _ _ h => h.elim⟩
  refine ⟨_, pss_cons (ps_set (i := 1) nd (by rw [eN]; rfl) (.inl (lk _ (by decide))) pe_sem rfl (.inr (lk _ (by decide)))) (pss_cons (Hz.ps_clauses (n := "_law_e") (i := 2) (Wout := fun _ _ _ _ => False) (l := [(.ref cr, tsIdx (machOf X)), (.ref ct, tsLim (machOf X)), (.ref cp, tsName (machOf X))])
    (tb := fun W D σ H => ∃ Ech : XK, (∀ cls d σ' H', Ech cls d H' → W cls d σ' H') ∧ σ[0]? = some (some (.ref f)) ∧ H c' = some (LamX.CodeO c' q) ∧ tl Ech H fun v H' => 2 ≤ sizeLine ∧ ∀ p, H' p = none → D.nx (σ.set 1 (some (.ref p))) (upd H' p (.tup [.str "told", v])))
    (by subst hY; rfl) (by subst hY; rfl) nd (by rw [eN]; rfl) (lk _ (by decide)) ?tk ?body ?cl) (pss_one (ps_ret (pe_var (i := 1) (by rw [eN]; rfl) (.inl (lk _ (by decide))) (by decide) (by decide))))), ?fin⟩
  case tk => exact fun u s' ⟨_, _, _, _, _, _, _, _, _, _, _, _, _, _, _, _, w⟩ => w.elim
  case fin =>
    refine sem pe_non ?_
    refine ⟨fun cls d H' => ∃ z, (Told (machOf X) cls d z ∨ ToldR (machOf X) cls d H' z ∨ ToldM (machOf X) cls d H' z) ∧ ∀ H'', Hz.Ext H' H'' → Q (.str z) H'', ?_, rfl, hc, ?_⟩
    · rintro cls d σ' H' ⟨z, ⟨D, fn, rfl, rfl, nm, ca, rfl⟩ | ⟨D, fn, dd, fs, i, rfl, rfl, hdd, hlk, nm, ca, hi, hln, rfl⟩ | ⟨D, fn, dd, fs, i, rfl, rfl, hdd, hlk, nm, ca, hi, hln, rfl⟩, hq⟩
      · obtain ⟨c1, g1, x1⟩ := ca.re
        obtain ⟨c2, g2, x2⟩ := ca.ma
        obtain ⟨c3, g3, x3⟩ := ca.pe
        cases m1.symm.trans g1
        cases m2.symm.trans g2
        cases m3.symm.trans g3
        subst hY
        refine ⟨false, x1, fun z => (by cases z), fun _ => ⟨false, x2, fun z => (by cases z), fun _ => ⟨true, x3, fun _ a ha => ?_, fun z => (by cases z)⟩⟩⟩
        intro hl
        rw [List.length_set] at hl
        refine ⟨List.getElem?_set_self hl, D, fn, rfl, rfl, nm, fun H'' e => ⟨.str (exName fn), ?_, hq _ e⟩⟩
        rw [List.getElem?_set_ne (by decide), List.getElem?_set_self (by rw [List.length_set]; omega)]
      · obtain ⟨c1, g1, x1⟩ := ca.re
        cases m1.symm.trans g1
        subst hY
        refine ⟨true, x1, fun _ a ha => ?_, fun z => (by cases z)⟩
        intro hl
        rw [List.length_set] at hl
        refine ⟨List.getElem?_set_self hl, D, fn, dd, fs, i, rfl, rfl, hdd, hlk, nm, ca, hi, hln, fun H'' e => ⟨.str (exNameI fn i), ?_, hq _ e⟩⟩
        rw [List.getElem?_set_ne (by decide), List.getElem?_set_self (by rw [List.length_set]; omega)]
      · obtain ⟨c1, g1, x1⟩ := ca.re
        obtain ⟨c2, g2, x2⟩ := ca.ma
        cases m1.symm.trans g1
        cases m2.symm.trans g2
        subst hY
        refine ⟨false, x1, fun z => (by cases z), fun _ => ⟨true, x2, fun _ a ha => ?_, fun z => (by cases z)⟩⟩
        intro hl
        rw [List.length_set] at hl
        refine ⟨List.getElem?_set_self hl, D, fn, dd, fs, i, rfl, rfl, hdd, hlk, nm, ca, hi, hln, fun H'' e => ⟨.str (exNameI fn i), ?_, hq _ e⟩⟩
        rw [List.getElem?_set_ne (by decide), List.getElem?_set_self (by rw [List.length_set]; omega)]
    · refine cast ?_ h
      unfold TTtry
      congr 1
      funext v H'
      refine propext ⟨fun ⟨a, b⟩ => ⟨a, fun p hp => ⟨.ref p, rfl, b p hp⟩⟩, fun ⟨a, b⟩ => ⟨a, fun p hp => ?_⟩⟩
      obtain ⟨u, e, q⟩ := b p hp
      cases e
      exact q
  case body =>
    intro W pn xe tk hp
    subst hY
    refine ⟨fun pins s' σ H' D I ⟨Ech, hW, h1, h2, h3⟩ => ?_⟩
    exact PSs.run (pss_one (ps_set (x := "_law_found") (i := 1) (X := (Hz.gotCx X nTry "_law_try" (defScope (topS 41)) g cdg s H).tr pn xe) nd rfl (.inl (lk _ (by decide))) (pe_tup (pa_cons (pe_str (x := "told")) (pa_cons (act W pn xe Ech _ _ tk hW) pa_nil (star_cons rfl)) (star_cons rfl))) rfl (.inr (lk _ (by decide))))) pins s' σ H' D I ⟨h1, h2, h3⟩
  case cl =>
    subst hY
    refine .cons ⟨by rfl, by rfl, .inl m1⟩ (fun a oe cls d pn hz hf => ⟨fun pins s' σ H' D I h => ?c1⟩) (.cons ⟨by rfl, by rfl, .inl m2⟩ (fun a oe cls d pn hz hf => ⟨fun pins s' σ H' D I h => ?c2⟩) (.cons ⟨by rfl, by rfl, .inl m3⟩ (fun a oe cls d pn hz hf => ⟨fun pins s' σ H' D I h => ?c3⟩) .nil))
    case c1 =>
      have hl : 2 < σ.length := by
        rw [I.len]
        exact Nat.lt_succ_self 2
      obtain ⟨e2, D', fn, dd, fs, i, rfl, rfl, hdd, hlk, nm, ca, hi, hln, q⟩ := h hl
      obtain ⟨us, hu⟩ := hf
      have hot : L2H.Hot1 ((Hz.gotCx X nTry "_law_try" (defScope (topS 41)) g cdg s H).suite a ((a, oe) :: pn)).A (a, oe) := ⟨rfl, us, hu, hz.2.2 us hu⟩
      refine PSs.run (pss_one (ps_set (x := "_law_found") (i := 1) (X := (Hz.gotCx X nTry "_law_try" (defScope (topS 41)) g cdg s H).suite a ((a, oe) :: pn)) nd rfl (.inl (lk _ (by decide)))
        (pe_op op_add_str (Hz.pe_callHp (k := k) (p := (a, oe)) F ⟨hr.dp, hr.un⟩ hot List.mem_cons_self (fun vs H Q E h => by obtain ⟨_, _, rfl, _⟩ := h; rfl) (by rfl) mf kf bf (pa_cons (pe_var (i := 2) rfl (.inl (lk _ (by decide))) (by decide) (by decide)) pa_nil (star_cons rfl)) (by decide) (star_cons rfl) (by rfl))
          (pe_callTy call_str_int (by rfl) ms (by decide +kernel) (pa_cons (pe_xf (C := D') ca.xf ca.no hz.zc ⟨us, hu⟩ (pe_var (i := 2) rfl (.inl (lk _ (by decide))) (by decide) (by decide))) pa_nil (star_cons rfl)) (by decide) (by decide) (star_cons rfl) (by rfl)))
        rfl (.inr (lk _ (by decide))))) pins s' σ H' D I ?_
      refine ⟨_, e2, D', fn, rfl, hz.1, by rw [hz.2.1]; exact ⟨fs, hdd⟩, ⟨us, hu⟩, nm, fun H'' x => ?_⟩
      exact ⟨_, e2, rfl, rfl, dd, fs, .int i, rfl, x _ _ hdd, hlk, i, rfl, hi, exName fn, _, rfl, rfl, Nat.le_trans hln (by decide), q _ x⟩
    case c2 =>
      have hl : 2 < σ.length := by
        rw [I.len]
        exact Nat.lt_succ_self 2
      obtain ⟨e2, D', fn, dd, fs, i, rfl, rfl, hdd, hlk, nm, ca, hi, hln, q⟩ := h hl
      obtain ⟨us, hu⟩ := hf
      have hot : L2H.Hot1 ((Hz.gotCx X nTry "_law_try" (defScope (topS 41)) g cdg s H).suite a ((a, oe) :: pn)).A (a, oe) := ⟨rfl, us, hu, hz.2.2 us hu⟩
      refine PSs.run (pss_one (ps_set (x := "_law_found") (i := 1) (X := (Hz.gotCx X nTry "_law_try" (defScope (topS 41)) g cdg s H).suite a ((a, oe) :: pn)) nd rfl (.inl (lk _ (by decide)))
        (pe_op op_add_str (Hz.pe_callHp (k := k) (p := (a, oe)) F ⟨hr.dp, hr.un⟩ hot List.mem_cons_self (fun vs H Q E h => by obtain ⟨_, _, rfl, _⟩ := h; rfl) (by rfl) mf kf bf (pa_cons (pe_var (i := 2) rfl (.inl (lk _ (by decide))) (by decide) (by decide)) pa_nil (star_cons rfl)) (by decide) (star_cons rfl) (by rfl))
          (pe_callTy call_str_int (by rfl) ms (by decide +kernel) (pa_cons (pe_xf (C := D') ca.xf ca.no hz.zc ⟨us, hu⟩ (pe_var (i := 2) rfl (.inl (lk _ (by decide))) (by decide) (by decide))) pa_nil (star_cons rfl)) (by decide) (by decide) (star_cons rfl) (by rfl)))
        rfl (.inr (lk _ (by decide))))) pins s' σ H' D I ?_
      refine ⟨_, e2, D', fn, rfl, hz.1, by rw [hz.2.1]; exact ⟨fs, hdd⟩, ⟨us, hu⟩, nm, fun H'' x => ?_⟩
      exact ⟨_, e2, rfl, rfl, dd, fs, .int i, rfl, x _ _ hdd, hlk, i, rfl, hi, exName fn, _, rfl, rfl, Nat.le_trans hln (by decide), q _ x⟩
    case c3 =>
      have hl : 2 < σ.length := by
        rw [I.len]
        exact Nat.lt_succ_self 2
      obtain ⟨e2, D', fn, rfl, rfl, nm, q⟩ := h hl
      obtain ⟨us, hu⟩ := hf
      have hot : L2H.Hot1 ((Hz.gotCx X nTry "_law_try" (defScope (topS 41)) g cdg s H).suite a ((a, oe) :: pn)).A (a, oe) := ⟨rfl, us, hu, hz.2.2 us hu⟩
      refine PSs.run (pss_one (ps_set (x := "_law_found") (i := 1) (X := (Hz.gotCx X nTry "_law_try" (defScope (topS 41)) g cdg s H).suite a ((a, oe) :: pn)) nd rfl (.inl (lk _ (by decide)))
        (Hz.pe_callHp (k := k) (p := (a, oe)) F ⟨hr.dp, hr.un⟩ hot List.mem_cons_self (fun vs H Q E h => by obtain ⟨_, _, rfl, _⟩ := h; rfl) (by rfl) mf kf bf (pa_cons (pe_var (i := 2) rfl (.inl (lk _ (by decide))) (by decide) (by decide)) pa_nil (star_cons rfl)) (by decide) (star_cons rfl) (by rfl)) rfl (.inr (lk _ (by decide))))) pins s' σ H' D I ?_
      exact ⟨_, e2, D', fn, rfl, hz.1, by rw [hz.2.1]; exact True.intro, ⟨us, hu⟩, nm, fun H'' x => q _ x⟩
/-- .. over data: no attributes, or an index -/
def ToldD (M : Mach) (x : XD) (z : Str) : Prop := (x.fs = none ∧ Told M x.cls none z) ∨ (∃ (D : Addr) (f : Str → Bool) (i : Int), x = ⟨.ref D, some [("index", .int i)]⟩ ∧ Named M D f ∧ CatchR M D ∧ i.natAbs.log2 < 1920 ∧ (exName f).length + (toString i : Str).length ≤ 1000 ∧ z = exNameI f i) ∨ ∃ (D : Addr) (f : Str → Bool) (i : Int), x = ⟨.ref D, some [("limit", .int i)]⟩ ∧ Named M D f ∧ CatchM M D ∧ i.natAbs.log2 < 1920 ∧ (exName f).length + (toString i : Str).length ≤ 1000 ∧ z = exNameI f i
theorem we_try {M : Mach} {X : Cx} {N : List Str} {sc : Scope} {vb lb gb : Str → Bool} {B : Bs} {G : Sl} {O : Own} {body : Expr} {scope : Scope} {pos p lpos : Pos} {k : Nat} {c P : Addr} {params : Arguments} {Φ : D → Own → Prop} (Ψ : Xk) (vn gl : List Str)
    (T : GDoor M "_law_try" "_law_door" nTry k (TTtry M)) (C : Cxt M X N sc vb lb gb) (hr : Room (k + 2) X.A) (TB : LamX.TabB M.base M.mg c P) (hcode : X.env.code = .ref c) (hm : (P, OV.tab (X.env.qual ++ "<lambda>")) ∈ O) (hg : gb "_law_try" = true) (L : LamX.lamSB sc scope = true) (hs : lamSc scope vn gl = true)
    (hb : ∀ X' B', LamB M X' B' N vn gl scope k Ψ → WE X' B' G O body fun d O' => Φ (.tup [.str "told", d]) O') (hx : ∀ x G' O', Ψ x G' O' → ∃ z, ToldD M x z ∧ Φ (.str z) O')
    (hdef : defaultsOf params X.env = ([], []) := by rfl) (hbind : ∀ (q : Str) (cl : List (Str × Addr)) (pm cv ctv : Value), bindArgs (PySem.W.kla_fn "<lambda>" q params body scope cl pm cv ctv) ⟨[], []⟩ = pure [] := by intros; rfl) :
    WE X B G O (.Call (.Name "_law_try" p) [.Lambda params body scope lpos] [] pos) Φ :=
  we_door T C hr TB hcode hm hg L hdef hbind fun F σ H S Q kk => by
    unfold TTtry
    refine tLam_of C L hs S (fun cls dd F' H' x G' O' S' e xr w => ?_) (fun v F' H' d O' S' e r p => ?_) hb
    · obtain ⟨z, zz, q⟩ := hx x G' O' w
      refine ⟨z, ?_, fun H'' ex => kk _ F' H'' _ O' (S'.ext ex) e (.str _) q⟩
      rcases zz with ⟨z1, z2⟩ | ⟨D, f, i, rfl, nm, ca, hi, hln, rfl⟩ | ⟨D, f, i, rfl, nm, ca, hi, hln, rfl⟩
      · obtain ⟨x1, x2⟩ := xr
        subst x1
        rw [z1] at x2
        have x3 : dd = none := x2
        subst x3
        exact .inl z2
      · obtain ⟨x1, a, hs, x2, x3, x4⟩ := xr
        subst x1 x2
        obtain ⟨v, rfl, rv⟩ : ∃ v, hs = [(("index" : Str), v)] ∧ Rep X.K F' v (.int i) := by
          cases x4 with
          | @cons p _ _ _ h r =>
            cases r
            obtain ⟨f0, v0⟩ := p
            obtain ⟨h1, h2⟩ := h
            dsimp only at h1 h2
            subst h1
            exact ⟨v0, rfl, h2⟩
        cases rv
        exact .inr (.inl ⟨D, f, a, _, i, rfl, rfl, S'.ex _ _ x3, rfl, nm, ca, hi, hln, rfl⟩)
      · obtain ⟨x1, a, hs, x2, x3, x4⟩ := xr
        subst x1 x2
        obtain ⟨v, rfl, rv⟩ : ∃ v, hs = [(("limit" : Str), v)] ∧ Rep X.K F' v (.int i) := by
          cases x4 with
          | @cons p _ _ _ h r =>
            cases r
            obtain ⟨f0, v0⟩ := p
            obtain ⟨h1, h2⟩ := h
            dsimp only at h1 h2
            subst h1
            exact ⟨v0, rfl, h2⟩
        cases rv
        exact .inr (.inr ⟨D, f, a, _, i, rfl, rfl, S'.ex _ _ x3, rfl, nm, ca, hi, hln, rfl⟩)
    · refine ⟨by decide, fun p' hp => ?_⟩
      have nF := (S'.fresh hp).1
      exact kk _ _ _ _ O' (S'.alloc hp _) (e.trans (same_upd nF)) (.tup (SqT.of upd_same) (.cons (.str _) (.cons (r.mono (same_upd nF)) .nil))) p
/-- a class of one's own: what _law_try tells of it -/
def TellsX (M : Mach) (x z : Str) : Prop := ∀ c, M.mg x = some (.ref c) → ToldD M ⟨.ref c, none⟩ z
/-- an exception of the class x, all else as before -/
def RaisedX (M : Mach) (x : Str) (O : Own) : Xk := fun y _ O' => (∃ c, M.mg x = some (.ref c) ∧ y = ⟨.ref c, none⟩) ∧ O' = O
theorem we_tryX {M : Mach} {X : Cx} {N : List Str} {sc : Scope} {vb lb gb : Str → Bool} {B : Bs} {G : Sl} {O : Own} {body : Expr} {scope : Scope} {pos p lpos : Pos} {k : Nat} {c P : Addr} {params : Arguments} {Φ : D → Own → Prop} (x z : Str) (vn gl : List Str)
    (T : GDoor M "_law_try" "_law_door" nTry k (TTtry M)) (C : Cxt M X N sc vb lb gb) (hr : Room (k + 2) X.A) (TB : LamX.TabB M.base M.mg c P) (hcode : X.env.code = .ref c) (hm : (P, OV.tab (X.env.qual ++ "<lambda>")) ∈ O) (hg : gb "_law_try" = true) (L : LamX.lamSB sc scope = true) (hs : lamSc scope vn gl = true)
    (tx : TellsX M x z) (hb : ∀ X' B', LamB M X' B' N vn gl scope k (RaisedX M x O) → WE X' B' G O body fun _ _ => False) (q : Φ (.str z) O)
    (hdef : defaultsOf params X.env = ([], []) := by rfl) (hbind : ∀ (q : Str) (cl : List (Str × Addr)) (pm cv ctv : Value), bindArgs (PySem.W.kla_fn "<lambda>" q params body scope cl pm cv ctv) ⟨[], []⟩ = pure [] := by intros; rfl) :
    WE X B G O (.Call (.Name "_law_try" p) [.Lambda params body scope lpos] [] pos) Φ :=
  we_try (RaisedX M x O) vn gl T C hr TB hcode hm hg L hs (fun X' B' lb => (hb X' B' lb).mono fun _ _ f => f.elim) (fun y G' O' ⟨⟨c, e1, e2⟩, e3⟩ => ⟨z, by rw [e2]; exact tx c e1, by rw [e3]; exact q⟩) hdef hbind
/-! ### Refused(index) -/
def clsM (s : Stmt) : Stmt := match s with
  | .ClassDef _ _ _ (m :: _) _ _ _ _ _ _ _ => m
  | _ => .Pass ⟨0, 0, 0, 0⟩
theorem sc_refinit : FnScope ["self", "index"] ["self", "index"] (defScope (clsM (topS 12))) := ⟨rfl, rfl, rfl, by decide +kernel, rfl, by decide +kernel, by decide +kernel⟩
theorem fn_refinit {M : Mach} {f B : Addr} {fd : FuncData} {k : Nat} (F : Fun M.K "__init__" "Refused.__init__" (clsM (topS 12)) f fd) (mB : M.mg "PointError" = some (.ref B)) (T : Hz.VeB M.K B) : FnOk M.P M.w M.K M.mg M.base (L2N.CX M.P M.w) (k + 1) f fd ["self", "index"] (spInit M.K "index") := by
  refine fun_okN F sc_refinit (fun vs H Q E h => by obtain ⟨_, _, _, rfl, _⟩ := h; rfl) fun cdv hcd A outer s H vs Q E hr h => ?_
  refine ⟨_, pss_cons (ps_expr (Hz.pe_clsinit T (by rfl) mB (pa_cons (pv 0) (pa_cons pe_str pa_nil)) (by decide) (by rfl) (by rfl) (by rfl))) (pss_one (ps_ost (pv 0) (pv 1))), ?_⟩
  obtain ⟨a, C, y, rfl, T2, hno, ha, q⟩ := h
  refine ⟨_, rfl, a, C, _, rfl, Nat.le_of_ble_eq_true rfl, T2, ha, ?_⟩
  refine ⟨y, rfl, _, rfl, a, C, rfl, T2, hno, .inl ⟨ha, fun dx h1 h2 => q dx h1 h2⟩⟩
/-! ### TooMany(limit) -/
theorem sc_manyinit : FnScope ["self", "limit"] ["self", "limit"] (defScope (clsM (topS 13))) := ⟨rfl, rfl, rfl, by decide +kernel, rfl, by decide +kernel, by decide +kernel⟩
theorem fn_manyinit {M : Mach} {f B : Addr} {fd : FuncData} {k : Nat} (F : Fun M.K "__init__" "TooMany.__init__" (clsM (topS 13)) f fd) (mB : M.mg "PointError" = some (.ref B)) (T : Hz.VeB M.K B) : FnOk M.P M.w M.K M.mg M.base (L2N.CX M.P M.w) (k + 1) f fd ["self", "limit"] (spInit M.K "limit") := by
  refine fun_okN F sc_manyinit (fun vs H Q E h => by obtain ⟨_, _, _, rfl, _⟩ := h; rfl) fun cdv hcd A outer s H vs Q E hr h => ?_
  refine ⟨_, pss_cons (ps_expr (Hz.pe_clsinit T (by rfl) mB (pa_cons (pv 0) (pa_cons pe_str pa_nil)) (by decide) (by rfl) (by rfl) (by rfl))) (pss_one (ps_ost (pv 0) (pv 1))), ?_⟩
  obtain ⟨a, C, y, rfl, T2, hno, ha, q⟩ := h
  refine ⟨_, rfl, a, C, _, rfl, Nat.le_of_ble_eq_true rfl, T2, ha, ?_⟩
  refine ⟨y, rfl, _, rfl, a, C, rfl, T2, hno, .inl ⟨ha, fun dx h1 h2 => q dx h1 h2⟩⟩
/-! ### what is no log -/
def spIsLogN : DSp := fun ds O Φ _ => ∃ d : D, ds = [d] ∧ (d = .non ∨ (∃ b, d = .bl b) ∨ ∃ i, d = .int i) ∧ Φ (.bl false) O
theorem ok_islogn {M : Mach} {f : Addr} {fd : FuncData} {k : Nat} (F : Fun M.K "is_log" "is_log" (topS 22) f fd) (h1 : M.mg "isinstance" = none) (h2 : M.mg "tuple" = none) :
    FnOk M.P M.w M.K M.mg M.base (L2N.CX M.P M.w) (k + 1) f fd ["value"] (liftSp M.K spIsLogN) := by
  refine fn_body (N := nIsLog) (vn := ["value"]) (gl := ["isinstance", "tuple", "all", "len", "MOST_EVENTS", "zip"]) F sc_islog (by decide +kernel) (fun ds O Φ Ψ h => ?_) fun X B ds O Φ Ψ bd h => ?_
  · obtain ⟨_, rfl, _⟩ := h
    rfl
  obtain ⟨d, rfl, ty, q⟩ := h
  have C := bd.C
  change WSs _ _ [some _, none, none, none] _ _ _
  rcases ty with rfl | ⟨b, rfl⟩ | ⟨i, rfl⟩
  · exact wss_cons (ws_if (wt_pv (PWv.t (PWv.to (pwv_or (ca := true) (cb := false) (PTv.to (pt_notv (ca := false) (pt_ofv (by exists "ev"))) rfl) fun h => by cases h) rfl)) (if_t (c := true) rfl (wss_one (ws_ret (we_pv (by exists "ev") q))))))
  · exact wss_cons (ws_if (wt_pv (PWv.t (PWv.to (pwv_or (ca := true) (cb := false) (PTv.to (pt_notv (ca := false) (pt_ofv (by exists "ev"))) rfl) fun h => by cases h) rfl)) (if_t (c := true) rfl (wss_one (ws_ret (we_pv (by exists "ev") q))))))
  · exact wss_cons (ws_if (wt_pv (PWv.t (PWv.to (pwv_or (ca := true) (cb := false) (PTv.to (pt_notv (ca := false) (pt_ofv (by exists "ev"))) rfl) fun h => by cases h) rfl)) (if_t (c := true) rfl (wss_one (ws_ret (we_pv (by exists "ev") q))))))
def spNeedLogX (M : Mach) : DSp := fun ds O _ Ψ => ∃ d : D, ds = [d] ∧ O = [] ∧ (d = .non ∨ (∃ b, d = .bl b) ∨ ∃ i, d = .int i) ∧ ∀ c, M.mg "InvalidLog" = some (.ref c) → Ψ ⟨.ref c, none⟩ []
theorem ok_needlogx {M : Mach} {f : Addr} {fd : FuncData} {k : Nat} (F : Fun M.K "need_log" "need_log" (topS 23) f fd) (g : GFn M "is_log" k spIsLogN) (hx : GExc M "InvalidLog") :
    FnOk M.P M.w M.K M.mg M.base (L2N.CX M.P M.w) (k + 1) f fd ["log"] (liftSp M.K (spNeedLogX M)) := by
  refine fn_body (N := ["log"]) (vn := ["log"]) (gl := ["is_log", "InvalidLog"]) F sc_needlog (by decide +kernel) (fun ds O Φ Ψ h => ?_) fun X B ds O Φ Ψ bd h => ?_
  · obtain ⟨_, rfl, _⟩ := h
    rfl
  obtain ⟨d, rfl, rfl, ty, q⟩ := h
  have C := bd.C
  change WSs _ _ [some _] _ _ _
  exact wss_one (ws_ifv (c := true) (PTv.to (pt_notv (ca := false) (pt_ofv (pv_call C g bd.r (by decide +kernel) (by exists "ea") fun Φ Ψ z => ⟨d, rfl, ty, z⟩))) rfl) (fun _ => wss_one (ws_raise C bd.tk hx (by decide +kernel) q)) (fun h => by cases h))
/-! ### seen balances -/
structure OkSeen (seen : List (Int × Int)) : Prop where
  l1 : 1 ≤ seen.length
  l2 : seen.length ≤ 10
  ok : ∀ r ∈ seen, 0 ≤ r.1 ∧ r.1 ≤ 12000 ∧ 0 ≤ r.2 ∧ r.2 ≤ 1000000000
abbrev nSeen : List Str := ["seen", "row"]
abbrev gSeen : List Str := ["isinstance", "tuple", "len", "MOST_SEEN", "is_from", "LAST_MOMENT", "MOST_BALANCE", "InvalidSeen"]
def spNeedSeen : DSp := fun ds O Φ _ => ∃ seen : List (Int × Int), ds = [.tup (seen.map ePr)] ∧ OkSeen seen ∧ Φ .non O
theorem sc_needseen : FnScope nSeen ["seen"] (defScope (topS 33)) := ⟨rfl, rfl, rfl, by decide +kernel, rfl, by decide +kernel, by decide +kernel⟩
theorem ok_needseen {M : Mach} {f : Addr} {fd : FuncData} {k : Nat} (F : Fun M.K "need_seen" "need_seen" (topS 33) f fd) (h1 : M.mg "isinstance" = none) (h2 : M.mg "tuple" = none) (h3 : M.mg "len" = none) (h4 : ∃ t, M.mg "MOST_SEEN" = some (.int 10 t)) (h5 : ∃ t, M.mg "LAST_MOMENT" = some (.int 12000 t)) (h6 : ∃ t, M.mg "MOST_BALANCE" = some (.int 1000000000 t)) (gi : GFn M "is_from" k spIsFrom) :
    FnOk M.P M.w M.K M.mg M.base (L2N.CX M.P M.w) (k + 1) f fd ["seen"] (liftSp M.K spNeedSeen) := by
  refine fn_body (N := nSeen) (vn := nSeen) (gl := gSeen) F sc_needseen (by decide +kernel) (fun ds O Φ Ψ h => ?_) fun X B ds O Φ Ψ bd h => ?_
  · obtain ⟨_, rfl, _⟩ := h
    rfl
  obtain ⟨seen, rfl, ok, q⟩ := h
  have C := bd.C
  have l1 := ok.l1
  have l2 := ok.l2
  change WSs _ _ [some _, none] _ _ _
  refine wss_cons (ws_ifv (c := false) (PWv.t (PWv.to (pwv_or (ca := false) (cb := false) (PTv.to (pt_notv (ca := true) (pt_ofv (by exists "ev"))) rfl) fun _ => pwv_or1 (PTv.to (pt_notv (ca := true) (PTv.to (pt_leLe (by exists "ev") (by exists "ev") (by exists "ev")) ?_)) rfl)) rfl)) (fun h => by cases h) fun _ => wss_nil ?_)
  · rw [List.length_map, decide_eq_true (by omega), decide_eq_true (by omega)] <;> rfl
  exists "nx"
  refine wss_one (ws_for C (wi_v (wiv_tup (ds := seen.map ePr) (by exists "ev")) ⟨fun i G' O' => ∃ g1 : Option D, G' = [some (.tup (seen.map ePr)), g1] ∧ O' = O, ⟨_, rfl, rfl⟩, fun _ _ _ _ _ p hp => (List.not_mem_nil hp).elim, ?_, ?_⟩))
  · rintro i d G' O' hd ⟨g1, rfl, rfl⟩
    obtain ⟨⟨t, n⟩, hx, rfl, hdr⟩ := map_at hd
    obtain ⟨a1, a2, a3, a4⟩ := ok.ok _ (List.mem_of_getElem? hx)
    exists "t1"
    refine wss_cons (ws_ifv (c := false) (PWv.t (PWv.to (pwv_or (ca := false) (cb := false) (PTv.to (pt_notv (ca := true) (pt_ofv (by exists "ev"))) rfl) fun _ => pwv_or (ca := false) (cb := false) (PTv.to (pt_ne (pv_len C (by exists "ev") .tup h3 (by decide +kernel)) (by exists "ev") rfl) rfl) fun _ => pwv_or1 (PTv.to (pt_notv (ca := true) (pt_ofv (PEv.to (pv_call C gi bd.r (by decide +kernel) (by exists "ea") fun Φ Ψ z => ⟨_, _, _, _, rfl, .int _, z⟩) (congrArg D.bl ?_)))) rfl)) rfl)) (fun h => by cases h) fun _ => wss_nil ?_)
    · show (decide (0 ≤ t) && decide (t ≤ 12000)) = true
      rw [decide_eq_true a1, decide_eq_true a2] <;> rfl
    exists "nx"
    refine wss_one (ws_ifv (c := false) (PTv.to (pt_notv (ca := true) (pt_ofv (PEv.to (pv_call C gi bd.r (by decide +kernel) (by exists "ea") fun Φ Ψ z => ⟨_, _, _, _, rfl, .int _, z⟩) (congrArg D.bl ?_)))) rfl) (fun h => by cases h) fun _ => wss_nil ⟨_, rfl, rfl⟩)
    show (decide (0 ≤ n) && decide (n ≤ 1000000000)) = true
    rw [decide_eq_true a3, decide_eq_true a4] <;> rfl
  · rintro G' O' ⟨g1, rfl, rfl⟩
    exact q
inductive BadSeen : D → Prop
  | non : BadSeen .non
  | lst (ds : List D) : BadSeen (.lst ds)
  | len (ds : List D) : (ds.length = 0 ∨ 10 < ds.length) → BadSeen (.tup ds)
  | row (x : D) : BadSeen (.tup [.tup [x]])
  | tm (a b : D) (t : String) : TyD [] a t → isFromD a 0 12000 = false → BadSeen (.tup [.tup [a, b]])
  | am (t n : Int) : 0 ≤ t → t ≤ 12000 → ¬ (0 ≤ n ∧ n ≤ 1000000000) → BadSeen (.tup [.tup [.int t, .int n]])
def spNeedSeenX (M : Mach) : DSp := fun ds O _ Ψ => ∃ d : D, ds = [d] ∧ O = [] ∧ BadSeen d ∧ ∀ c, M.mg "InvalidSeen" = some (.ref c) → Ψ ⟨.ref c, none⟩ []
theorem ok_needseenx {M : Mach} {f : Addr} {fd : FuncData} {k : Nat} (F : Fun M.K "need_seen" "need_seen" (topS 33) f fd) (h1 : M.mg "isinstance" = none) (h2 : M.mg "tuple" = none) (h3 : M.mg "len" = none) (h4 : ∃ t, M.mg "MOST_SEEN" = some (.int 10 t)) (h5 : ∃ t, M.mg "LAST_MOMENT" = some (.int 12000 t)) (h6 : ∃ t, M.mg "MOST_BALANCE" = some (.int 1000000000 t)) (gi : GFn M "is_from" k spIsFrom) (hx : GExc M "InvalidSeen") :
    FnOk M.P M.w M.K M.mg M.base (L2N.CX M.P M.w) (k + 1) f fd ["seen"] (liftSp M.K (spNeedSeenX M)) := by
  refine fn_body (N := nSeen) (vn := nSeen) (gl := gSeen) F sc_needseen (by decide +kernel) (fun ds O Φ Ψ h => ?_) fun X B ds O Φ Ψ bd h => ?_
  · obtain ⟨_, rfl, _⟩ := h
    rfl
  obtain ⟨d, rfl, rfl, bad, q⟩ := h
  have C := bd.C
  have good : ∀ {ds : List D}, 1 ≤ ds.length → ds.length ≤ 10 → (decide ((1 : Int) ≤ (ds.length : Int)) && decide ((ds.length : Int) ≤ 10)) = true := fun {ds} a b => by
    rw [decide_eq_true (by omega), decide_eq_true (by omega)] <;> rfl
  change WSs _ _ [some _, none] _ _ _
  cases bad with
  | non => exact wss_cons (ws_ifv (c := true) (PWv.t (PWv.to (pwv_or (ca := true) (cb := false) (PTv.to (pt_notv (ca := false) (pt_ofv (by exists "ev"))) rfl) fun h => by cases h) rfl)) (fun _ => wss_one (ws_raise C bd.tk hx (by decide +kernel) q)) fun h => by cases h)
  | lst ds => exact wss_cons (ws_ifv (c := true) (PWv.t (PWv.to (pwv_or (ca := true) (cb := false) (PTv.to (pt_notv (ca := false) (pt_ofv (by exists "ev"))) rfl) fun h => by cases h) rfl)) (fun _ => wss_one (ws_raise C bd.tk hx (by decide +kernel) q)) fun h => by cases h)
  | len ds hl =>
    refine wss_cons (ws_ifv (c := true) (PWv.t (PWv.to (pwv_or (ca := false) (cb := true) (PTv.to (pt_notv (ca := true) (pt_ofv (by exists "ev"))) rfl) fun _ => pwv_or1 (PTv.to (pt_notv (ca := false) (PTv.to (pt_leLe (by exists "ev") (by exists "ev") (by exists "ev")) ?_)) rfl)) rfl)) (fun _ => wss_one (ws_raise C bd.tk hx (by decide +kernel) q)) fun h => by cases h)
    rcases hl with hl | hl
    · rw [decide_eq_false (by omega), Bool.false_and]
    · rw [show decide ((ds.length : Int) ≤ 10) = false from decide_eq_false (by omega), Bool.and_false]
  | row x =>
    refine wss_cons (ws_ifv (c := false) (PWv.t (PWv.to (pwv_or (ca := false) (cb := false) (PTv.to (pt_notv (ca := true) (pt_ofv (by exists "ev"))) rfl) fun _ => pwv_or1 (PTv.to (pt_notv (ca := true) (PTv.to (pt_leLe (by exists "ev") (by exists "ev") (by exists "ev")) (good (Nat.le_refl _) (Nat.le_of_ble_eq_true rfl)))) rfl)) rfl)) (fun h => by cases h) fun _ => wss_nil ?_)
    exists "nx"
    refine wss_one (ws_for C (wi_v (wiv_tup (ds := [.tup [x]]) (by exists "ev")) ⟨fun i G' O' => i ≤ 0 ∧ ∃ g1 : Option D, G' = [some (.tup [.tup [x]]), g1] ∧ O' = [], ⟨Nat.le_refl _, _, rfl, rfl⟩, fun _ _ _ _ _ p hp => (List.not_mem_nil hp).elim, ?_, fun G' O' ⟨z, _⟩ => (by have z : 1 ≤ 0 := z; omega)⟩))
    rintro i d G' O' hd ⟨hi, g1, rfl, rfl⟩
    obtain rfl : i = 0 := Nat.le_zero.mp hi
    cases hd
    exists "t1"
    exact wss_cons (ws_ifv (c := true) (PWv.t (PWv.to (pwv_or (ca := false) (cb := true) (PTv.to (pt_notv (ca := true) (pt_ofv (by exists "ev"))) rfl) fun _ => pwv_or (ca := true) (cb := false) (PTv.to (pt_ne (pv_len C (by exists "ev") .tup h3 (by decide +kernel)) (by exists "ev") rfl) rfl) fun h => by cases h) rfl)) (fun _ => wss_one (ws_raise C bd.tk hx (by decide +kernel) q)) fun h => by cases h)
  | tm a b t ty hb =>
    refine wss_cons (ws_ifv (c := false) (PWv.t (PWv.to (pwv_or (ca := false) (cb := false) (PTv.to (pt_notv (ca := true) (pt_ofv (by exists "ev"))) rfl) fun _ => pwv_or1 (PTv.to (pt_notv (ca := true) (PTv.to (pt_leLe (by exists "ev") (by exists "ev") (by exists "ev")) (good (Nat.le_refl _) (Nat.le_of_ble_eq_true rfl)))) rfl)) rfl)) (fun h => by cases h) fun _ => wss_nil ?_)
    exists "nx"
    refine wss_one (ws_for C (wi_v (wiv_tup (ds := [.tup [a, b]]) (by exists "ev")) ⟨fun i G' O' => i ≤ 0 ∧ ∃ g1 : Option D, G' = [some (.tup [.tup [a, b]]), g1] ∧ O' = [], ⟨Nat.le_refl _, _, rfl, rfl⟩, fun _ _ _ _ _ p hp => (List.not_mem_nil hp).elim, ?_, fun G' O' ⟨z, _⟩ => (by have z : 1 ≤ 0 := z; omega)⟩))
    rintro i d G' O' hd ⟨hi, g1, rfl, rfl⟩
    obtain rfl : i = 0 := Nat.le_zero.mp hi
    cases hd
    exists "t1"
    exact wss_cons (ws_ifv (c := true) (PWv.t (PWv.to (pwv_or (ca := false) (cb := true) (PTv.to (pt_notv (ca := true) (pt_ofv (by exists "ev"))) rfl) fun _ => pwv_or (ca := false) (cb := true) (PTv.to (pt_ne (pv_len C (by exists "ev") .tup h3 (by decide +kernel)) (by exists "ev") rfl) rfl) fun _ => pwv_or1 (PTv.to (pt_notv (ca := false) (pt_ofv (PEv.to (pv_call C gi bd.r (by decide +kernel) (by exists "ea") fun Φ Ψ z => ⟨_, _, _, _, rfl, ty, z⟩) (congrArg D.bl hb)))) rfl)) rfl)) (fun _ => wss_one (ws_raise C bd.tk hx (by decide +kernel) q)) fun h => by cases h)
  | am t n a1 a2 hb =>
    refine wss_cons (ws_ifv (c := false) (PWv.t (PWv.to (pwv_or (ca := false) (cb := false) (PTv.to (pt_notv (ca := true) (pt_ofv (by exists "ev"))) rfl) fun _ => pwv_or1 (PTv.to (pt_notv (ca := true) (PTv.to (pt_leLe (by exists "ev") (by exists "ev") (by exists "ev")) (good (Nat.le_refl _) (Nat.le_of_ble_eq_true rfl)))) rfl)) rfl)) (fun h => by cases h) fun _ => wss_nil ?_)
    exists "nx"
    refine wss_one (ws_for C (wi_v (wiv_tup (ds := [.tup [.int t, .int n]]) (by exists "ev")) ⟨fun i G' O' => i ≤ 0 ∧ ∃ g1 : Option D, G' = [some (.tup [.tup [.int t, .int n]]), g1] ∧ O' = [], ⟨Nat.le_refl _, _, rfl, rfl⟩, fun _ _ _ _ _ p hp => (List.not_mem_nil hp).elim, ?_, fun G' O' ⟨z, _⟩ => (by have z : 1 ≤ 0 := z; omega)⟩))
    rintro i d G' O' hd ⟨hi, g1, rfl, rfl⟩
    obtain rfl : i = 0 := Nat.le_zero.mp hi
    cases hd
    exists "t1"
    refine wss_cons (ws_ifv (c := false) (PWv.t (PWv.to (pwv_or (ca := false) (cb := false) (PTv.to (pt_notv (ca := true) (pt_ofv (by exists "ev"))) rfl) fun _ => pwv_or (ca := false) (cb := false) (PTv.to (pt_ne (pv_len C (by exists "ev") .tup h3 (by decide +kernel)) (by exists "ev") rfl) rfl) fun _ => pwv_or1 (PTv.to (pt_notv (ca := true) (pt_ofv (PEv.to (pv_call C gi bd.r (by decide +kernel) (by exists "ea") fun Φ Ψ z => ⟨_, _, _, _, rfl, .int _, z⟩) (congrArg D.bl ?_)))) rfl)) rfl)) (fun h => by cases h) fun _ => wss_nil ?_)
    · show (decide (0 ≤ t) && decide (t ≤ 12000)) = true
      rw [decide_eq_true a1, decide_eq_true a2] <;> rfl
    exists "nx"
    refine wss_one (ws_ifv (c := true) (PTv.to (pt_notv (ca := false) (pt_ofv (PEv.to (pv_call C gi bd.r (by decide +kernel) (by exists "ea") fun Φ Ψ z => ⟨_, _, _, _, rfl, .int _, z⟩) (congrArg D.bl ?_)))) rfl) (fun _ => wss_one (ws_raise C bd.tk hx (by decide +kernel) q)) fun h => by cases h)
    show (decide (0 ≤ n) && decide (n ≤ 1000000000)) = false
    by_cases c : 0 ≤ n
    · rw [show decide (n ≤ 1000000000) = false from decide_eq_false fun z => hb ⟨c, z⟩, Bool.and_false]
    · rw [decide_eq_false c, Bool.false_and]
/-! ### fit_life -/
abbrev qFit : Str := "fit_life.<locals>.<lambda>"
def covF (log : List Ev) (life : Int) : Bool := (playF life 10000 log).2.2.2.isNone
def thF (log : List Ev) (life t : Int) : Int := total (playF life t log).1
def fitF (log : List Ev) (seen : List (Int × Int)) : Option (Int × Int) := bestF (thF log) seen (firstI (covF log) 1 1000) 1000
def spFit (Pf Pb : Addr) : DSp := fun ds O Φ _ => ∃ (log : List Ev) (seen : List (Int × Int)), ds = [.tup (log.map eEv), .tup (seen.map ePr)] ∧ O = [(Pf, .tab qFit), (Pb, .tab qBest)] ∧ OkLog log ∧ OkSeen seen ∧ Φ (eOP (fitF log seen)) O
abbrev nFit : List Str := ["log", "seen", "covered"]
theorem sc_fit : FnScope nFit ["log", "seen"] (defScope (topS 36)) := ⟨rfl, rfl, rfl, by decide +kernel, rfl, by decide +kernel, by decide +kernel⟩
theorem eOpt_isNon (r : Option Nat) : isNon (eOpt r) = r.isNone := by cases r <;> rfl
theorem ok_fit {M : Mach} {f : Addr} {fd : FuncData} {k : Nat} {c P R : Addr} (F : Fun M.K "fit_life" "fit_life" (topS 36) f fd) (h1 : ∃ t, M.mg "LONGEST_LIFE" = some (.int 1000 t)) (g1 : GFn M "need_log" k spNeedLog) (g2 : GFn M "need_seen" k spNeedSeen) (gr : GFn M "refused_at" 15 spRefusedAt) (gt : GFn M "balance_of" 15 spThere) (gb : GFn M "best_range" k (spBest M R))
    (hcode : fd.code = .ref c) (TB : LamX.TabB M.base M.mg c P) : FnOk M.P M.w M.K M.mg M.base (L2N.CX M.P M.w) (k + 1) f fd ["log", "seen"] (liftSp M.K (spFit P R)) := by
  refine fn_bodyC (N := nFit) (vn := nFit) (gl := ["need_log", "need_seen", "best_range", "LONGEST_LIFE"]) F sc_fit (by decide +kernel) (fun ds O Φ Ψ h => ?_) fun X B ds O Φ Ψ bd env h => ?_
  · obtain ⟨_, _, rfl, _⟩ := h
    rfl
  obtain ⟨log, seen, rfl, rfl, ok, oks, q⟩ := h
  obtain ⟨Ln, env⟩ := env
  have hq : X.env.qual ++ "<lambda>" = qFit := by
    rw [env]
    show (envOfC "fit_life" (defScope (topS 36)) Ln f fd.code).qual ++ "<lambda>" = qFit
    rfl
  have hcode' : X.env.code = .ref c := by
    rw [env]
    exact hcode
  have C := bd.C
  have hmP : ∀ {O' : Own}, (P, OV.tab (X.env.qual ++ "<lambda>")) ∈ (P, OV.tab qFit) :: O' := by
    rw [hq]
    exact List.mem_cons_self
  have hmP2 : ∀ {p1 : Addr × OV} {O' : Own}, (P, OV.tab (X.env.qual ++ "<lambda>")) ∈ p1 :: (P, OV.tab qFit) :: O' := fun {p1 O'} => List.mem_cons_of_mem _ hmP
  change WSs _ _ [some _, some _, none] _ _ _
  refine wss_cons (ws_expr (we_pv (pv_call C g1 bd.r (by decide +kernel) (by exists "ea") fun Φ Ψ z => ⟨log, rfl, ok, z⟩) ?_))
  exists "nx"
  refine wss_cons (ws_expr (we_pv (pv_call C g2 bd.r (by decide +kernel) (by exists "ea") fun Φ Ψ z => ⟨seen, rfl, oks, z⟩) ?_))
  exists "nx"
  refine wss_cons (ws_set C (by exists "sa") (by decide +kernel) (we_lamC C TB hcode' hmP (by decide +kernel) fun f1 => ?_))
  exists "nx"
  have hx : ∀ q ∈ ([("log", .tup (log.map eEv))] : NDs), VarAt nFit [some (.tup (log.map eEv)), some (.tup (seen.map ePr)), some (.obj f1)] q.1 q.2 := fun q hq => by
    simp only [List.mem_cons, List.not_mem_nil, or_false] at hq
    subst hq
    exists "va"
  refine wss_one (ws_ret (we_less (we_callC ["log"] [("log", .tup (log.map eEv))] C gb bd.r (by decide +kernel) hx rfl (by decide +kernel) (by decide +kernel) (wa_cons (we_pv (by exists "ev") (wa_cons (we_lamC C TB hcode' hmP2 (by decide +kernel) fun f2 => wa_pv (by exists "ea") fun ca co lc => ?_)))))))
  refine ⟨_, _, eOP (fitF log seen), permC, fun Φ' Ψ' z => ⟨f1, f2, seen, 1000, _, _, _, _, _, covF log, thF log, rfl, rfl, by have := oks.l2; omega, List.mem_append_right _ (List.mem_cons_of_mem _ List.mem_cons_self), List.mem_append_right _ List.mem_cons_self, ?_, ?_, z⟩, _, List.Sublist.cons _ (List.Sublist.cons _ (List.Sublist.refl _)), q⟩
  · refine vfn_clo (k := 15) (ps := ["life"]) (gl := ["refused_at"]) lc ["log"] ["life", "log"] [("log", .tup (log.map eEv))] rfl rfl (by decide +kernel) (by decide +kernel) (fun _ _ _ _ us hl => match us, hl with | [_], _ => rfl) (fun q hq => List.mem_map.mpr ⟨q, hq, rfl⟩) (List.Perm.refl _) (List.mem_cons_of_mem _ List.mem_cons_self) (fun ds v ⟨m, e, _⟩ => by rw [e] <;> rfl) fun X' B' ds v ⟨m, e1, e2⟩ lb => ?_
    subst e1 e2
    have C' := lb.C
    change PEv X' B' [some (.int m), some (.tup (log.map eEv))] _ _ _
    exact PEv.to (pv_is (pv_call C' gr lb.r (by decide +kernel) (by exists "ea") fun Φ Ψ z => ⟨log, m, rfl, ok, z⟩) (by exists "ev")) (congrArg D.bl (eOpt_isNon _))
  · refine vfn_clo (k := 15) (ps := ["life", "time"]) (gl := ["balance_of"]) lc ["log"] ["life", "time", "log"] [("log", .tup (log.map eEv))] rfl rfl (by decide +kernel) (by decide +kernel) (fun _ _ _ _ us hl => match us, hl with | [_, _], _ => rfl) (fun q hq => List.mem_map.mpr ⟨q, hq, rfl⟩) (List.Perm.refl _) List.mem_cons_self (fun ds v ⟨m, t, e, _⟩ => by rw [e] <;> rfl) fun X' B' ds v ⟨m, t, e1, e2⟩ lb => ?_
    subst e1 e2
    have C' := lb.C
    change PEv X' B' [some (.int m), some (.int t), some (.tup (log.map eEv))] _ _ _
    exact pv_call C' gt lb.r (by decide +kernel) (by exists "ea") fun Φ Ψ z => ⟨log, m, t, rfl, ok, z⟩
abbrev gFit : List Str := ["need_log", "need_seen", "best_range", "LONGEST_LIFE"]
def spFitL (M : Mach) : DSp := fun ds O _ Ψ => ∃ d s : D, ds = [d, s] ∧ O = [] ∧ (d = .non ∨ (∃ b, d = .bl b) ∨ ∃ i, d = .int i) ∧ ∀ c, M.mg "InvalidLog" = some (.ref c) → Ψ ⟨.ref c, none⟩ []
theorem ok_fitl {M : Mach} {f : Addr} {fd : FuncData} {k : Nat} (F : Fun M.K "fit_life" "fit_life" (topS 36) f fd) (g1 : GFn M "need_log" k (spNeedLogX M)) :
    FnOk M.P M.w M.K M.mg M.base (L2N.CX M.P M.w) (k + 1) f fd ["log", "seen"] (liftSp M.K (spFitL M)) := by
  refine fn_body (N := nFit) (vn := nFit) (gl := gFit) F sc_fit (by decide +kernel) (fun ds O Φ Ψ h => ?_) fun X B ds O Φ Ψ bd h => ?_
  · obtain ⟨_, _, rfl, _⟩ := h
    rfl
  obtain ⟨d, s, rfl, rfl, ty, q⟩ := h
  have C := bd.C
  change WSs _ _ [some _, some _, none] _ _ _
  exact wss_cons (ws_expr (we_call C g1 bd.r bd.tk (by decide +kernel) (wa_pv (by exists "ea") ⟨[], [], List.Perm.refl _, d, rfl, rfl, ty, q⟩)))
def spFitS (M : Mach) : DSp := fun ds O _ Ψ => ∃ (log : List Ev) (d : D), ds = [.tup (log.map eEv), d] ∧ O = [] ∧ OkLog log ∧ BadSeen d ∧ ∀ c, M.mg "InvalidSeen" = some (.ref c) → Ψ ⟨.ref c, none⟩ []
theorem ok_fitseen {M : Mach} {f : Addr} {fd : FuncData} {k : Nat} (F : Fun M.K "fit_life" "fit_life" (topS 36) f fd) (g1 : GFn M "need_log" k spNeedLog) (g2 : GFn M "need_seen" k (spNeedSeenX M)) :
    FnOk M.P M.w M.K M.mg M.base (L2N.CX M.P M.w) (k + 1) f fd ["log", "seen"] (liftSp M.K (spFitS M)) := by
  refine fn_body (N := nFit) (vn := nFit) (gl := gFit) F sc_fit (by decide +kernel) (fun ds O Φ Ψ h => ?_) fun X B ds O Φ Ψ bd h => ?_
  · obtain ⟨_, _, rfl, _⟩ := h
    rfl
  obtain ⟨log, d, rfl, rfl, ok, bad, q⟩ := h
  have C := bd.C
  change WSs _ _ [some _, some _, none] _ _ _
  refine wss_cons (ws_expr (we_pv (pv_call C g1 bd.r (by decide +kernel) (by exists "ea") fun Φ Ψ z => ⟨log, rfl, ok, z⟩) ?_))
  exists "nx"
  exact wss_cons (ws_expr (we_call C g2 bd.r bd.tk (by decide +kernel) (wa_pv (by exists "ea") ⟨[], [], List.Perm.refl _, d, rfl, rfl, bad, q⟩)))
/-! ### rows of distinct times -/
abbrev Dist (one : List (Int × Int)) : Prop := one.Pairwise fun a b => a.1 ≠ b.1
/-! ### lapsed points of a log, at all moments -/
/-- a log that refuses nothing, its amounts of any size -/
structure PosW (log : List Ev) (span : Int) : Prop where
  ev : ∀ e ∈ log, 0 ≤ e.2.1 ∧ e.2.1 ≤ 10000 ∧ 0 < e.2.2
  asc : AscE log
  no : (playF span 10000 log).2.2.2 = none
  s1 : 1 ≤ span
  s2 : span ≤ 1000
theorem Gd.posw {log : List Ev} {span t : Int} (h : Gd log span t) (s1 : 1 ≤ span) (s2 : span ≤ 1000) : PosW log span := ⟨fun e he => by have := (h.ev e he).1; exact ⟨this.1, this.2.1, by have := this.2.2.1; omega⟩, h.asc, h.no, s1, s2⟩
theorem PosW.inv {log : List Ev} {span u : Int} (h : PosW log span) (u0 : 0 ≤ u) : (playF span u log).2.2.2 = none ∧ Inv (log.filter fun e => decide (e.2.1 ≤ u)) span u (playF span u log).1 (playF span u log).2.1 := by
  obtain ⟨h1, h2⟩ := run_inv h.s1 (u := u) (inv_nil span 0) u0 (fun e he => ⟨(h.ev e he).1, (h.ev e he).2.2, (h.ev e he).2.1⟩) h.asc (play_no h.no)
  refine ⟨?_, h2⟩
  unfold playF endF
  rw [h1]
/-- the rows of all lapses -/
abbrev gsF (log : List Ev) (span : Int) : List Lot := (playF span 12000 log).2.1
/-- lapsed until s -/
def LF (log : List Ev) (span s : Int) : Int := sumBy lam (fun g => decide (g.1 ≤ s)) (gsF log span)
theorem exists_max : ∀ {xs : List Lot}, xs ≠ [] → ∃ g ∈ xs, ∀ x ∈ xs, x.1 ≤ g.1
  | [], h => (h rfl).elim
  | [x], _ => ⟨x, List.mem_cons_self, fun y hy => by rw [List.mem_singleton.mp hy]; exact Int.le_refl _⟩
  | x :: y :: r, _ => by
    obtain ⟨g, hg, h⟩ := exists_max (xs := y :: r) (by simp)
    by_cases c : x.1 ≤ g.1
    · refine ⟨g, List.mem_cons_of_mem _ hg, fun z hz => ?_⟩
      rcases List.mem_cons.mp hz with rfl | hz
      · exact c
      · exact h z hz
    · refine ⟨x, List.mem_cons_self, fun z hz => ?_⟩
      rcases List.mem_cons.mp hz with rfl | hz
      · exact Int.le_refl _
      · have := h z hz; omega
section
variable {log : List Ev} {span : Int}
theorem PosW.filt (h : PosW log span) : log.filter (fun e => decide (e.2.1 ≤ 12000)) = log := List.filter_eq_self.mpr fun e he => decide_eq_true (by have := (h.ev e he).2.1; omega)
theorem PosW.all (h : PosW log span) : Inv log span 12000 (playF span 12000 log).1 (gsF log span) := by
  have z := (h.inv (u := 12000) (by decide)).2
  rw [h.filt] at z
  exact z
theorem LF_nonneg (h : PosW log span) (s : Int) : 0 ≤ LF log span s := sumBy_nonneg fun g hg => Int.le_of_lt (h.all.posg g hg)
theorem LF_mono (h : PosW log span) {s t : Int} (l : s ≤ t) : LF log span s ≤ LF log span t := sumBy_mono (fun g hg => Int.le_of_lt (h.all.posg g hg)) fun g _ c => decide_eq_true (by have := of_decide_eq_true c; omega)
theorem LF_value (h : PosW log span) {s : Int} (l : s ≤ 12000) : valueF log span s ≤ LF log span s := h.all.v1 s l
theorem LF_at (h : PosW log span) (s : Int) : LF log span s = 0 ∨ ∃ g ∈ gsF log span, g.1 ≤ s ∧ LF log span s = LF log span g.1 ∧ valueF log span g.1 = LF log span g.1 := by
  by_cases c : (gsF log span).filter (fun g => decide (g.1 ≤ s)) = []
  · exact .inl (sumBy_none fun g hg => by
      have z := List.filter_eq_nil_iff.mp c g hg
      simpa using z)
  · obtain ⟨g, hg, mx⟩ := exists_max c
    obtain ⟨g1, g2⟩ := List.mem_filter.mp hg
    have g2 := of_decide_eq_true g2
    refine .inr ⟨g, g1, g2, sumBy_congr fun x hx => ?_, h.all.v2 g g1⟩
    refine decide_eq_decide.mpr ⟨fun z => mx x (List.mem_filter.mpr ⟨hx, decide_eq_true z⟩), fun z => Int.le_trans z g2⟩
theorem LF_gone (h : PosW log span) {u : Int} (u0 : 0 ≤ u) (u1 : u ≤ 12000) : goneBy log span u = LF log span u := by
  obtain ⟨X, hX, hX2⟩ := play_rows h.s1 u1 h.asc (h.inv (u := 12000) (by decide)).1
  have I := (h.inv u0).2
  rw [goneBy_total, total_sumBy, LF, gsF, hX, sumBy_app, sumBy_none (xs := X) fun x hx => decide_eq_false (by have := hX2 x hx; omega), Int.add_zero]
  exact sumBy_congr fun g hg => (decide_eq_true (I.gle g hg)).symm
theorem LF_last (h : PosW log span) : LF log span 12000 = sumBy eam isE log - sumBy eam isS log := by
  have I := h.all
  have z : (playF span 12000 log).1 = [] := List.eq_nil_iff_forall_not_mem.mpr fun l hl => by
    have r := (I.rng l hl).1
    obtain ⟨e, he, _, e2⟩ := I.src l hl
    have := (h.ev e he).2.1
    have := h.s2
    omega
  have t := I.tot
  rw [z] at t
  have e : LF log span 12000 = total (gsF log span) := by
    rw [total_sumBy]
    exact sumBy_congr fun g hg => decide_eq_true (I.gle g hg)
  rw [e, ← t]
  show _ = total [] + _
  rw [show total [] = 0 from rfl, Int.zero_add]
theorem mergeS_sum (p : Int → Bool) (acc : List (Int × Int)) (r : Int × Int) : sumBy am2 (fun x => p x.1) (mergeS acc r) = sumBy am2 (fun x => p x.1) acc + sumBy am2 (fun x => p x.1) [r] := by
  unfold mergeS
  split
  · exact sumBy_app _ _
  · rename_i l e
    obtain ⟨ys, rfl⟩ := List.getLast?_eq_some_iff.mp e
    split
    · rename_i c
      rw [List.dropLast_concat, sumBy_app, sumBy_app, sumBy_cons, sumBy_cons, sumBy_cons, sumBy_nil]
      dsimp only [am2]
      rw [c]
      split <;> omega
    · exact sumBy_app _ _
theorem mergeF_sum (p : Int → Bool) : ∀ (rows acc : List (Int × Int)), sumBy am2 (fun x => p x.1) (rows.foldl mergeS acc) = sumBy am2 (fun x => p x.1) acc + sumBy am2 (fun x => p x.1) rows
  | [], acc => by rw [List.foldl_nil, sumBy_nil, Int.add_zero]
  | r :: rows, acc => by
    rw [List.foldl_cons, mergeF_sum p rows, mergeS_sum, show r :: rows = [r] ++ rows from rfl, sumBy_app]
    omega
theorem lapsesF_sum (log : List Ev) (span s : Int) : sumBy am2 (fun r => decide (r.1 ≤ s)) (lapsesF log span) = LF log span s := by
  unfold lapsesF mergeF
  rw [mergeF_sum (fun x => decide (x ≤ s)), sumBy_nil, Int.zero_add, sumBy_map]
  rfl
theorem lapsesF_MI (h : PosW log span) : MI (lapsesF log span) ((gsF log span).map fun l : Lot => (l.1, l.2.1)) := mergeF_MI (asc_pr h.all.ascg)
theorem lapsesF_dist (h : PosW log span) : Dist (lapsesF log span) := (lapsesF_MI h).asc.imp fun z => by omega
theorem lapsesF_keys (h : PosW log span) (m : Int) : m ∈ (lapsesF log span).map (·.1) ↔ ∃ g ∈ gsF log span, g.1 = m := by
  rw [List.mem_map, (lapsesF_MI h).mem m]
  constructor
  · rintro ⟨r, hr, e⟩
    obtain ⟨g, hg, rfl⟩ := List.mem_map.mp hr
    exact ⟨g, hg, e⟩
  · rintro ⟨g, hg, e⟩
    exact ⟨(g.1, g.2.1), List.mem_map.mpr ⟨g, hg, rfl⟩, e⟩
/-- balances at all moments -/
theorem PosW.bal (h : PosW log span) {u : Int} (u0 : 0 ≤ u) (u1 : u ≤ 12000) : total (playF span u log).1 = sumBy eam (fun e => decide (e.2.1 ≤ u) && isE e) log - sumBy eam (fun e => decide (e.2.1 ≤ u) && isS e) log - LF log span u := by
  have := (h.inv u0).2.tot
  rw [sumBy_filter, sumBy_filter] at this
  have e := LF_gone h u0 u1
  rw [goneBy_total] at e
  omega
end
/-! ### one spending has one point more -/
/-! ### until when -/
theorem run_til {life t1 t2 : Int} : ∀ (log : List Ev) (i : Nat) (ls gs : List Lot) (ts : List Tk), (∀ e ∈ log, e.2.1 ≤ t1 ∧ e.2.1 ≤ t2) → runF life t1 i log ls gs ts = runF life t2 i log ls gs ts
  | [], _, _, _, _, _ => rfl
  | e :: r, i, ls, gs, ts, h => by
    obtain ⟨h1, h2⟩ := h e List.mem_cons_self
    have hr := fun x hx => h x (List.mem_cons_of_mem _ hx)
    rw [runF, runF, if_pos h1, if_pos h2, run_til r _ _ _ _ hr, run_til r _ _ _ _ hr]
/-! ### logs together -/
theorem sumBy_perm {α : Type} {f : α → Int} {p : α → Bool} {xs ys : List α} (h : xs.Perm ys) : sumBy f p xs = sumBy f p ys := by
  induction h with
  | nil => rfl
  | cons x _ ih => rw [sumBy_cons, sumBy_cons, ih]
  | swap x y l =>
    rw [sumBy_cons, sumBy_cons, sumBy_cons, sumBy_cons]
    omega
  | trans _ _ h1 h2 => rw [h1, h2]
theorem sumBy_flat {α : Type} {f : α → Int} {p : α → Bool} : ∀ ls : List (List α), sumBy f p ls.flatten = (ls.map (sumBy f p)).sum
  | [] => rfl
  | l :: r => by
    rw [List.flatten_cons, sumBy_app, sumBy_flat r, List.map_cons, List.sum_cons]
theorem sum_le3 {α : Type} {a b c : α → Int} : ∀ {ls : List α}, (∀ l ∈ ls, 0 ≤ a l - b l - c l) → 0 ≤ (ls.map a).sum - (ls.map b).sum - (ls.map c).sum
  | [], _ => by simp
  | l :: r, h => by
    have h1 := h l List.mem_cons_self
    have h2 := sum_le3 (ls := r) fun x hx => h x (List.mem_cons_of_mem _ hx)
    rw [List.map_cons, List.map_cons, List.map_cons, List.sum_cons, List.sum_cons, List.sum_cons]
    omega
theorem sum_sub {α : Type} {a b c : α → Int} : ∀ {ls : List α}, (∀ l ∈ ls, c l = a l - b l) → (ls.map c).sum = (ls.map a).sum - (ls.map b).sum
  | [], _ => by simp
  | l :: r, h => by
    have h1 := h l List.mem_cons_self
    have h2 := sum_sub (ls := r) fun x hx => h x (List.mem_cons_of_mem _ hx)
    rw [List.map_cons, List.map_cons, List.map_cons, List.sum_cons, List.sum_cons, List.sum_cons]
    omega
theorem sum_mono {α : Type} {a b : α → Int} : ∀ {ls : List α}, (∀ l ∈ ls, a l ≤ b l) → (ls.map a).sum ≤ (ls.map b).sum
  | [], _ => Int.le_refl _
  | l :: r, h => by
    have h1 := h l List.mem_cons_self
    have h2 := sum_mono (ls := r) fun x hx => h x (List.mem_cons_of_mem _ hx)
    rw [List.map_cons, List.map_cons, List.sum_cons, List.sum_cons]
    omega
/-- the logs' events in order, earnings ahead of spendings of the same time -/
structure Mg (logs : List (List Ev)) (L : List Ev) : Prop where
  perm : L.Perm logs.flatten
  asc : AscE L
  ord : L.Pairwise fun a b => a.2.1 = b.2.1 → b.1 = true → a.1 = true
section
variable {logs : List (List Ev)} {L : List Ev} {span : Int}
theorem Mg.sum (g : Mg logs L) (p : Ev → Bool) : sumBy eam p L = (logs.map (sumBy eam p)).sum := by
  rw [sumBy_perm g.perm, sumBy_flat]
theorem Mg.value (g : Mg logs L) (m : Int) : valueF L span m = (logs.map fun l => valueF l span m).sum := by
  rw [valueF_sumBy, g.sum, g.sum]
  exact (sum_sub fun l _ => valueF_sumBy l span m).symm
theorem run_snoc {life til : Int} : ∀ (xs ys : List Ev) (i : Nat) (ls gs : List Lot) (ts : List Tk), (runF life til i xs ls gs ts).2.2.2 = none → runF life til i (xs ++ ys) ls gs ts = runF life til (i + xs.length) ys (runF life til i xs ls gs ts).1 (runF life til i xs ls gs ts).2.1 (runF life til i xs ls gs ts).2.2.1
  | [], _, _, _, _, _, _ => rfl
  | e :: r, ys, i, ls, gs, ts, h => by
    have el : i + (e :: r).length = i + 1 + r.length := by rw [List.length_cons]; omega
    rw [el]
    rw [runF] at h
    rw [List.cons_append, runF, runF]
    split at h
    · rename_i c
      rw [if_pos c, if_pos c]
      split at h
      · rename_i c2
        rw [if_pos c2, if_pos c2]
        exact run_snoc r ys (i + 1) _ _ _ h
      · rename_i c2
        rw [if_neg c2, if_neg c2]
        split at h
        · cases h
        · rename_i c3
          rw [if_neg c3, if_neg c3]
          exact run_snoc r ys (i + 1) _ _ _ h
    · rename_i c
      rw [if_neg c, if_neg c]
      exact run_snoc r ys (i + 1) _ _ _ h
/-- what is there ahead of a spending is enough for it -/
theorem Mg.cover (g : Mg logs L) (hp : ∀ l ∈ logs, PosW l span) {P R : List Ev} {t n : Int} (e : L = P ++ (false, t, n) :: R) (hP : PosW P span) (t0 : 0 ≤ t) (t1 : t ≤ 10000) : n ≤ total (playF span t P).1 := by
  have s1 := hP.s1
  have asc := g.asc
  have ord := g.ord
  rw [e] at asc ord
  obtain ⟨a1, a2, a3⟩ := List.pairwise_append.mp asc
  obtain ⟨b1, b2⟩ := List.pairwise_cons.mp a2
  obtain ⟨o1, o2, o3⟩ := List.pairwise_append.mp ord
  obtain ⟨q1, q2⟩ := List.pairwise_cons.mp o2
  have hR : ∀ x ∈ R, t ≤ x.2.1 ∧ (x.2.1 ≤ t → x.1 = false) := fun x hx => by
    have h1 := b1 x hx
    dsimp only at h1
    refine ⟨h1, fun h2 => ?_⟩
    cases hk : x.1 with
    | false => rfl
    | true =>
      have z := q1 x hx (by show t = x.2.1; omega) hk
      cases z
  have hPt : ∀ x ∈ P, x.2.1 ≤ t := fun x hx => a3 x hx _ List.mem_cons_self
  -- earned, spent until t
  have eE : sumBy eam (fun e => decide (e.2.1 ≤ t) && isE e) L = sumBy eam (fun e => decide (e.2.1 ≤ t) && isE e) P := by
    rw [e, sumBy_app, sumBy_cons, sumBy_none (xs := R) fun x hx => ?_]
    · show _ + ((if (decide (t ≤ t) && false) = true then n else 0) + 0) = _
      rw [Bool.and_false, if_neg Bool.false_ne_true]
      omega
    · by_cases c : x.2.1 ≤ t
      · show (decide _ && x.1) = false
        rw [(hR x hx).2 c, Bool.and_false]
      · rw [decide_eq_false c, Bool.false_and]
  have eS : sumBy eam (fun e => decide (e.2.1 ≤ t) && isS e) P + n ≤ sumBy eam (fun e => decide (e.2.1 ≤ t) && isS e) L := by
    have nn : 0 ≤ sumBy eam (fun e => decide (e.2.1 ≤ t) && isS e) R := sumBy_nonneg fun x hx => by
      have hm : x ∈ L := by rw [e]; exact List.mem_append_right _ (List.mem_cons_of_mem _ hx)
      obtain ⟨l, hl, hxl⟩ := List.mem_flatten.mp (g.perm.mem_iff.mp hm)
      have := ((hp l hl).ev x hxl).2.2
      exact Int.le_of_lt this
    rw [e, sumBy_app, sumBy_cons]
    show _ ≤ _ + ((if (decide (t ≤ t) && true) = true then n else 0) + _)
    rw [decide_eq_true (Int.le_refl t), Bool.and_true, if_pos rfl]
    omega
  have eV : ∀ m, m ≤ t → valueF L span m = valueF P span m := fun m hm => by
    rw [valueF_sumBy, valueF_sumBy, e, sumBy_app, sumBy_app]
    have z : ∀ x ∈ (false, t, n) :: R, t ≤ x.2.1 := fun x hx => by
      rcases List.mem_cons.mp hx with rfl | hx
      · exact Int.le_refl _
      · exact (hR x hx).1
    rw [sumBy_none (xs := (false, t, n) :: R) fun x hx => by rw [decide_eq_false (by have := z x hx; omega), Bool.and_false], sumBy_none (xs := (false, t, n) :: R) fun x hx => by rw [decide_eq_false (by have := z x hx; omega), Bool.and_false]]
    omega
  have bal := hP.bal t0 (by omega : t ≤ 12000)
  have each : ∀ l ∈ logs, 0 ≤ sumBy eam (fun e => decide (e.2.1 ≤ t) && isE e) l - sumBy eam (fun e => decide (e.2.1 ≤ t) && isS e) l - LF l span t := fun l hl => by
    rw [← (hp l hl).bal t0 (by omega : t ≤ 12000)]
    exact ((hp l hl).inv t0).2.pos.total
  rw [bal]
  rcases LF_at hP t with h | ⟨x, _, x1, x2, x3⟩
  · rw [h]
    have z := sum_le3 (ls := logs) (a := sumBy eam fun e => decide (e.2.1 ≤ t) && isE e) (b := sumBy eam fun e => decide (e.2.1 ≤ t) && isS e) (c := fun _ => 0) fun l hl => by
      have h1 := each l hl
      have h2 := LF_nonneg (hp l hl) t
      omega
    rw [← g.sum, ← g.sum] at z
    have z0 : ∀ ls : List (List Ev), (ls.map fun _ => (0 : Int)).sum = 0 := fun ls => by
      induction ls with
      | nil => rfl
      | cons _ _ ih => rw [List.map_cons, List.sum_cons, ih]; rfl
    rw [z0] at z
    omega
  · rw [x2, ← x3, ← eV _ x1, g.value]
    have z := sum_le3 (ls := logs) (a := sumBy eam fun e => decide (e.2.1 ≤ t) && isE e) (b := sumBy eam fun e => decide (e.2.1 ≤ t) && isS e) (c := fun l => valueF l span x.1) fun l hl => by
      have h1 := each l hl
      have h2 := LF_value (hp l hl) (s := x.1) (by omega)
      have h3 := LF_mono (hp l hl) x1
      omega
    rw [← g.sum, ← g.sum] at z
    omega
theorem Mg.posw (g : Mg logs L) (hp : ∀ l ∈ logs, PosW l span) (s1 : 1 ≤ span) (s2 : span ≤ 1000) : PosW L span := by
  have ev : ∀ e ∈ L, 0 ≤ e.2.1 ∧ e.2.1 ≤ 10000 ∧ 0 < e.2.2 := fun e he => by
    obtain ⟨l, hl, hx⟩ := List.mem_flatten.mp (g.perm.mem_iff.mp he)
    exact (hp l hl).ev e hx
  have step : ∀ k, k ≤ L.length → (runF span 10000 0 (L.take k) [] [] []).2.2.2 = none := by
    intro k
    induction k with
    | zero => exact fun _ => rfl
    | succ k ih =>
      intro hk
      have no := ih (by omega)
      obtain ⟨⟨kd, t, n⟩, hx⟩ : ∃ e, L[k]'(by omega) = e := ⟨_, rfl⟩
      have hat : L[k]? = some (kd, t, n) := by rw [List.getElem?_eq_getElem (by omega), hx]
      have he := ev _ (List.mem_of_getElem? hat)
      dsimp only at he
      have tk : L.take (k + 1) = L.take k ++ [(kd, t, n)] := by
        rw [List.take_succ, hat]
        rfl
      rw [tk, run_snoc _ _ _ _ _ _ no]
      cases kd with
      | true =>
        rw [runF_earn he.2.1]
        rfl
      | false =>
        have eL : L = L.take k ++ (false, t, n) :: L.drop (k + 1) := by
          have z := List.take_append_drop k L
          rw [List.drop_eq_getElem_cons (by omega), hx] at z
          exact z.symm
        have asc := g.asc
        rw [eL] at asc
        obtain ⟨a1, _, a3⟩ := List.pairwise_append.mp asc
        have hP : PosW (L.take k) span := ⟨fun e he => ev e (List.mem_of_mem_take he), a1, by unfold playF endF; rw [no], s1, s2⟩
        have cv := g.cover hp eL hP he.1 he.2.1
        have er : runF span t 0 (L.take k) [] [] [] = runF span 10000 0 (L.take k) [] [] [] := run_til _ _ _ _ _ fun e h => ⟨a3 e h _ List.mem_cons_self, (ev e (List.mem_of_mem_take h)).2.1⟩
        unfold playF endF at cv
        rw [er, no] at cv
        rw [runF_spend he.2.1 cv]
        rfl
  have no := step L.length (Nat.le_refl _)
  rw [List.take_length] at no
  exact ⟨ev, g.asc, by unfold playF endF; rw [no], s1, s2⟩
/-- what lapses together, what is there together -/
theorem Mg.gone (g : Mg logs L) (hp : ∀ l ∈ logs, PosW l span) (s1 : 1 ≤ span) (s2 : span ≤ 1000) {u : Int} (u0 : 0 ≤ u) (u1 : u ≤ 12000) : goneBy L span u ≤ (logs.map fun l => goneBy l span u).sum := by
  have hL := g.posw hp s1 s2
  have e : (logs.map fun l => goneBy l span u).sum = (logs.map fun l => LF l span u).sum := congrArg List.sum (List.map_congr_left fun l hl => LF_gone (hp l hl) u0 u1)
  rw [e, LF_gone hL u0 u1]
  rcases LF_at hL u with h | ⟨x, _, x1, x2, x3⟩
  · rw [h]
    have z := sum_mono (ls := logs) (a := fun _ => 0) (b := fun l => LF l span u) fun l hl => LF_nonneg (hp l hl) u
    have z0 : ∀ ls : List (List Ev), (ls.map fun _ => (0 : Int)).sum = 0 := fun ls => by
      induction ls with
      | nil => rfl
      | cons _ _ ih => rw [List.map_cons, List.sum_cons, ih]; rfl
    rw [z0] at z
    exact z
  · rw [x2, ← x3, g.value]
    exact sum_mono fun l hl => Int.le_trans (LF_value (hp l hl) (by omega)) (LF_mono (hp l hl) x1)
theorem Mg.bal (g : Mg logs L) (hp : ∀ l ∈ logs, PosW l span) (s1 : 1 ≤ span) (s2 : span ≤ 1000) {u : Int} (u0 : 0 ≤ u) (u1 : u ≤ 12000) : total (playF span u L).1 = (logs.map fun l => goneBy l span u).sum - goneBy L span u + (logs.map fun l => total (playF span u l).1).sum := by
  have hL := g.posw hp s1 s2
  rw [hL.bal u0 u1, LF_gone hL u0 u1, g.sum, g.sum]
  have e1 := sum_sub (ls := logs) (c := fun l => total (playF span u l).1 + goneBy l span u) (a := sumBy eam fun e => decide (e.2.1 ≤ u) && isE e) (b := sumBy eam fun e => decide (e.2.1 ≤ u) && isS e) fun l hl => by
    rw [(hp l hl).bal u0 u1, LF_gone (hp l hl) u0 u1]
    omega
  have e2 : ∀ ls : List (List Ev), (ls.map fun l => total (playF span u l).1 + goneBy l span u).sum = (ls.map fun l => total (playF span u l).1).sum + (ls.map fun l => goneBy l span u).sum := fun ls => by
    induction ls with
    | nil => rfl
    | cons l r ih => rw [List.map_cons, List.map_cons, List.map_cons, List.sum_cons, List.sum_cons, List.sum_cons, ih]; omega
  rw [e2] at e1
  omega
end
/-! ### longer lives -/
theorem endF_idxL (span u : Int) (r : Pl) : (endF span u r).2.2.2 = r.2.2.2 := by
  unfold endF
  split
  · rfl
  · rename_i h; exact h.symm
theorem run_pre {life til : Int} : ∀ (xs ys : List Ev) (i : Nat) (ls gs : List Lot) (ts : List Tk), (runF life til i (xs ++ ys) ls gs ts).2.2.2 = none → (runF life til i xs ls gs ts).2.2.2 = none
  | [], _, _, _, _, _, _ => rfl
  | e :: r, ys, i, ls, gs, ts, h => by
    rw [List.cons_append, runF] at h
    rw [runF]
    split at h
    · rename_i c
      rw [if_pos c]
      split at h
      · rename_i c2
        rw [if_pos c2]
        exact run_pre r ys (i + 1) _ _ _ h
      · rename_i c2
        rw [if_neg c2]
        split at h
        · cases h
        · rename_i c3
          rw [if_neg c3]
          exact run_pre r ys (i + 1) _ _ _ h
    · rename_i c
      rw [if_neg c]
      exact run_pre r ys (i + 1) _ _ _ h
section
variable {log P R : List Ev} {a b : Int}
theorem PosW.run (h : PosW log a) : (runF a 10000 0 log [] [] []).2.2.2 = none := by
  have := h.no
  unfold playF at this
  rw [endF_idxL] at this
  exact this
theorem PosW.pre (h : PosW (P ++ R) a) : PosW P a := ⟨fun e he => h.ev e (List.mem_append_left _ he), (List.pairwise_append.mp h.asc).1, by
  unfold playF
  rw [endF_idxL]
  exact run_pre _ _ _ _ _ _ h.run, h.s1, h.s2⟩
theorem PosW.cov {t n : Int} (h : PosW (P ++ (false, t, n) :: R) a) : n ≤ total (playF a t P).1 := by
  have no := h.run
  have np := run_pre _ _ _ _ _ _ no
  rw [run_snoc _ _ _ _ _ _ np] at no
  have ht := (h.ev (false, t, n) (List.mem_append_right _ List.mem_cons_self)).2.1
  dsimp only at ht
  have a3 := (List.pairwise_append.mp h.asc).2.2
  have er : runF a t 0 P [] [] [] = runF a 10000 0 P [] [] [] := run_til _ _ _ _ _ fun e he => ⟨a3 e he _ List.mem_cons_self, (h.ev e (List.mem_append_left _ he)).2.1⟩
  by_cases c : total (lapseF a t (runF a 10000 0 P [] [] []).1).1 < n
  · rw [runF_refuse ht c] at no
    cases no
  · unfold playF endF
    rw [er, np]
    exact Int.not_lt.mp c
theorem value_anti (hp : ∀ e ∈ log, 0 < e.2.2) (l : a ≤ b) (s : Int) : valueF log b s ≤ valueF log a s := by
  rw [valueF_sumBy, valueF_sumBy]
  have z : sumBy eam (fun e => isE e && decide (e.2.1 + b ≤ s)) log ≤ sumBy eam (fun e => isE e && decide (e.2.1 + a ≤ s)) log := sumBy_mono (fun g hg => Int.le_of_lt (hp g hg)) fun g _ c => by
    rw [Bool.and_eq_true, decide_eq_true_eq] at c ⊢
    exact ⟨c.1, by omega⟩
  omega
theorem LF_anti (h : PosW log a) (h2 : PosW log b) (l : a ≤ b) {u : Int} (u1 : u ≤ 12000) : LF log b u ≤ LF log a u := by
  rcases LF_at h2 u with e | ⟨g, _, g1, g2, g3⟩
  · rw [e]
    exact LF_nonneg h u
  · rw [g2, ← g3]
    exact Int.le_trans (value_anti (fun e he => (h.ev e he).2.2) l g.1) (Int.le_trans (LF_value h (by omega)) (LF_mono h g1))
theorem bal_up (h : PosW log a) (h2 : PosW log b) (l : a ≤ b) {u : Int} (u0 : 0 ≤ u) (u1 : u ≤ 12000) : total (playF a u log).1 ≤ total (playF b u log).1 := by
  rw [h.bal u0 u1, h2.bal u0 u1]
  have := LF_anti h h2 l u1
  omega
theorem life_up (h : PosW log a) (l : a ≤ b) (l2 : b ≤ 1000) : PosW log b := by
  have hb1 : 1 ≤ b := Int.le_trans h.s1 l
  have step : ∀ k, k ≤ log.length → (runF b 10000 0 (log.take k) [] [] []).2.2.2 = none := by
    intro k
    induction k with
    | zero => exact fun _ => rfl
    | succ k ih =>
      intro hk
      have no := ih (by omega)
      obtain ⟨⟨kd, t, n⟩, hx⟩ : ∃ e, log[k]'(by omega) = e := ⟨_, rfl⟩
      have hat : log[k]? = some (kd, t, n) := by rw [List.getElem?_eq_getElem (by omega), hx]
      have he := h.ev _ (List.mem_of_getElem? hat)
      dsimp only at he
      have tk : log.take (k + 1) = log.take k ++ [(kd, t, n)] := by
        rw [List.take_succ, hat]
        rfl
      rw [tk, run_snoc _ _ _ _ _ _ no]
      cases kd with
      | true =>
        rw [runF_earn he.2.1]
        rfl
      | false =>
        have eL : log = log.take k ++ (false, t, n) :: log.drop (k + 1) := by
          have z := List.take_append_drop k log
          rw [List.drop_eq_getElem_cons (by omega), hx] at z
          exact z.symm
        have hL := h
        rw [eL] at hL
        have c1 := hL.cov
        have hP := hL.pre
        have hP2 : PosW (log.take k) b := ⟨hP.ev, hP.asc, by unfold playF endF; rw [no], hb1, l2⟩
        have cv := Int.le_trans c1 (bal_up hP hP2 l he.1 (by omega))
        have a3 := (List.pairwise_append.mp hL.asc).2.2
        have er : runF b t 0 (log.take k) [] [] [] = runF b 10000 0 (log.take k) [] [] [] := run_til _ _ _ _ _ fun e h' => ⟨a3 e h' _ List.mem_cons_self, (hP.ev e h').2.1⟩
        unfold playF endF at cv
        rw [er, no] at cv
        rw [runF_spend he.2.1 cv]
        rfl
  have no := step log.length (Nat.le_refl _)
  rw [List.take_length] at no
  exact ⟨h.ev, h.asc, by unfold playF endF; rw [no], hb1, l2⟩
end
/-! ### the range that is found -/
theorem firstI_spec {g : Int → Bool} : ∀ (n : Nat) {lo hi : Int}, (hi + 1 - lo).toNat = n → lo ≤ hi + 1 → (∀ i j, lo ≤ i → i ≤ j → j ≤ hi → g i = true → g j = true) →
    lo ≤ firstI g lo hi ∧ firstI g lo hi ≤ hi + 1 ∧ (∀ i, lo ≤ i → i < firstI g lo hi → g i = false) ∧ ∀ i, firstI g lo hi ≤ i → i ≤ hi → g i = true := by
  intro n
  induction n using Nat.strongRecOn with
  | _ n ih =>
    intro lo hi hn h m
    by_cases c : lo ≤ hi
    · have hmid : lo ≤ (lo + hi) / 2 ∧ (lo + hi) / 2 ≤ hi := by omega
      rw [firstI_step g c]
      cases hg : g ((lo + hi) / 2) with
      | true =>
        rw [if_pos rfl]
        obtain ⟨r1, r2, r3, r4⟩ := ih _ (by omega) (lo := lo) (hi := (lo + hi) / 2 - 1) rfl (by omega) fun i j a b c d => m i j a b (by omega) d
        refine ⟨r1, by omega, r3, fun i a b => ?_⟩
        by_cases e : i ≤ (lo + hi) / 2 - 1
        · exact r4 i a e
        · exact m _ i hmid.1 (by omega) b hg
      | false =>
        rw [if_neg Bool.false_ne_true]
        obtain ⟨r1, r2, r3, r4⟩ := ih _ (by omega) (lo := (lo + hi) / 2 + 1) (hi := hi) rfl (by omega) fun i j a b c d => m i j (by omega) b c d
        refine ⟨by omega, r2, fun i a b => ?_, r4⟩
        by_cases e : (lo + hi) / 2 + 1 ≤ i
        · exact r3 i e b
        · cases hi' : g i with
          | false => rfl
          | true =>
            have := m i ((lo + hi) / 2) a (by omega) hmid.2 hi'
            rw [hg] at this
            cases this
    · rw [firstI_end g (by omega)]
      exact ⟨Int.le_refl _, h, fun i a b => by omega, fun i a b => by omega⟩
def inR : Option (Int × Int) → Int → Bool
  | none, _ => false
  | some r, k => decide (r.1 ≤ k) && decide (k ≤ r.2)
def fitsB (th : Int → Int → Int) (seen : List (Int × Int)) (k : Int) : Bool := seen.all fun r => decide (th k r.1 = r.2)
theorem inR_some {r : Int × Int} {k : Int} : inR (some r) k = true ↔ r.1 ≤ k ∧ k ≤ r.2 := by
  unfold inR
  rw [Bool.and_eq_true, decide_eq_true_eq, decide_eq_true_eq]
theorem bestF_spec {th : Int → Int → Int} : ∀ (seen : List (Int × Int)) {lo hi : Int}, lo ≤ hi + 1 → (∀ r ∈ seen, ∀ i j, lo ≤ i → i ≤ j → j ≤ hi → th i r.1 ≤ th j r.1) →
    (∀ r, bestF th seen lo hi = some r → r.1 ≤ r.2 ∧ lo ≤ r.1 ∧ r.2 ≤ hi) ∧ ∀ k, lo ≤ k → k ≤ hi → (fitsB th seen k = true ↔ inR (bestF th seen lo hi) k = true)
  | [], lo, hi, h, m => by
    unfold bestF
    by_cases c : lo ≤ hi
    · rw [if_pos c]
      refine ⟨fun r e => ?_, fun k a b => ⟨fun _ => inR_some.mpr ⟨a, b⟩, fun _ => rfl⟩⟩
      cases e
      exact ⟨c, Int.le_refl _, Int.le_refl _⟩
    · rw [if_neg c]
      exact ⟨fun r e => (by cases e), fun k a b => (by omega)⟩
  | x :: r, lo, hi, h, m => by
    have mx := m x List.mem_cons_self
    obtain ⟨f1, f2, f3, f4⟩ := firstI_spec (g := fun k => decide (x.2 ≤ th k x.1)) _ rfl h fun i j a b c d => decide_eq_true (by have := of_decide_eq_true d; have := mx i j a b c; omega)
    rw [bestF]
    generalize firstI (fun k => decide (x.2 ≤ th k x.1)) lo hi = f at *
    obtain ⟨g1, g2, g3, g4⟩ := firstI_spec (g := fun k => decide (x.2 < th k x.1)) _ rfl f2 fun i j a b c d => decide_eq_true (by have := of_decide_eq_true d; have := mx i j (by omega) b c; omega)
    generalize firstI (fun k => decide (x.2 < th k x.1)) f hi = g at *
    obtain ⟨i1, i2⟩ := bestF_spec r (lo := f) (hi := g - 1) (by omega) fun y hy i j a b c => m y (List.mem_cons_of_mem _ hy) i j (by omega) b (by omega)
    refine ⟨fun y e => ?_, fun k a b => ?_⟩
    · obtain ⟨z1, z2, z3⟩ := i1 y e
      exact ⟨z1, by omega, by omega⟩
    · have hk : th k x.1 = x.2 ↔ f ≤ k ∧ k ≤ g - 1 := by
        constructor
        · intro e
          constructor
          · refine Int.not_lt.mp fun z => ?_
            have := of_decide_eq_false (f3 k a z)
            omega
          · refine Int.not_lt.mp fun z => ?_
            have := of_decide_eq_true (g4 k (by omega) b)
            omega
        · rintro ⟨z1, z2⟩
          have y1 := of_decide_eq_true (f4 k z1 b)
          have y2 := of_decide_eq_false (g3 k z1 (by omega))
          omega
      show ((decide (th k x.1 = x.2) && fitsB th r k) = true) ↔ _
      rw [Bool.and_eq_true, decide_eq_true_eq, hk]
      constructor
      · rintro ⟨⟨z1, z2⟩, z3⟩
        exact (i2 k z1 z2).mp z3
      · intro z
        have rg : f ≤ k ∧ k ≤ g - 1 := by
          cases e : bestF th r f (g - 1) with
          | none => rw [e] at z; cases z
          | some y =>
            rw [e] at z
            obtain ⟨z1, z2, z3⟩ := i1 y e
            have := inR_some.mp z
            omega
        exact ⟨rg, (i2 k rg.1 rg.2).mpr z⟩
theorem posw_of {log : List Ev} {k : Int} (ok : OkLog log) (c : covF log k = true) (k1 : 1 ≤ k) (k2 : k ≤ 1000) : PosW log k := ⟨fun e he => by have := ok.ev e he; exact ⟨this.1, this.2.1, by have := this.2.2.1; omega⟩, ascE_of_ord ok.ord, Option.isNone_iff_eq_none.mp c, k1, k2⟩
theorem fitF_spec {log : List Ev} {seen : List (Int × Int)} (ok : OkLog log) (oks : OkSeen seen) : (∀ r, fitF log seen = some r → r.1 ≤ r.2 ∧ 1 ≤ r.1 ∧ r.2 ≤ 1000) ∧ ∀ k, 1 ≤ k → k ≤ 1000 → (covF log k && fitsB (thF log) seen k) = inR (fitF log seen) k := by
  obtain ⟨c1, c2, c3, c4⟩ := firstI_spec (g := covF log) (lo := 1) (hi := 1000) _ rfl (by decide) fun i j a b c d => by
    have h := life_up (posw_of ok d a (by omega)) b c
    unfold covF
    rw [h.no] <;> rfl
  unfold fitF
  generalize firstI (covF log) 1 1000 = f at *
  obtain ⟨i1, i2⟩ := bestF_spec (th := thF log) seen (lo := f) (hi := 1000) c2 fun r hr i j a b c => by
    obtain ⟨t0, t1, _, _⟩ := oks.ok r hr
    exact bal_up (posw_of ok (c4 i a (by omega)) (by omega) (by omega)) (posw_of ok (c4 j (by omega) c) (by omega) c) b t0 t1
  refine ⟨fun r e => ?_, fun k a b => ?_⟩
  · obtain ⟨z1, z2, z3⟩ := i1 r e
    exact ⟨z1, by omega, z3⟩
  · by_cases c : f ≤ k
    · rw [c4 k c b, Bool.true_and]
      exact Bool.eq_iff_iff.mpr (i2 k c b)
    · rw [c3 k a (by omega), Bool.false_and]
      cases e : bestF (thF log) seen f 1000 with
      | none => rfl
      | some r =>
        obtain ⟨z1, z2, z3⟩ := i1 r e
        cases hz : inR (some r) k with
        | false => rfl
        | true =>
          have := inR_some.mp hz
          omega
/-! ### moments, at least one -/
def spMomN : DSp := fun ds O Φ _ => ∃ (a : Addr) (xs : List D) (n : Int) (log : List Ev) (span : Int), ds = [.obj a, .tup (log.map eEv), .int span] ∧ O = [(a, .lst xs)] ∧ Dk n xs ∧ n < 900000 ∧ OkLog log ∧ 1 ≤ span ∧ span ≤ 1000 ∧
  ∀ (ms : List Int) zs, ms ≠ [] → ms.length ≤ 200 → (∀ m ∈ ms, 0 ≤ m ∧ m ≤ 12000) → Dk (n + 1) zs → Φ (.lst (ms.map D.int)) [(a, .lst zs)]
theorem ok_momn {M : Mach} {f : Addr} {fd : FuncData} {k : Nat} (F : Fun M.K "_law_moments" "_law_moments" (topS 51) f fd) (h1 : M.mg "max" = none) (g : GFn M "_law_pick" k spPick) :
    FnOk M.P M.w M.K M.mg M.base (L2N.CX M.P M.w) (k + 1) f fd ["_law_deck_here", "_law_log", "_law_span_here"] (liftSp M.K spMomN) := by
  refine fn_body (N := nMoments) (vn := nMoments) (gl := ["max", "_law_pick"]) F sc_moments (by decide +kernel) (fun ds O Φ Ψ h => ?_) fun X B ds O Φ Ψ bd h => ?_
  · obtain ⟨_, _, _, _, _, rfl, _⟩ := h
    rfl
  obtain ⟨a, xs, n, log, span, rfl, rfl, dk, hn, ok, s1, s2, q⟩ := h
  have C := bd.C
  have hlen := ok.len
  change WSs _ _ [some _, some _, some _, none, none] _ _ _
  refine wss_cons (ws_set C (by exists "sa") (by decide +kernel) (we_frz (wn_lst (wa_cons (we_pv (by exists "ev") (wa_cons (we_pv (by exists "ev") (wa_cons (we_pick C g bd.r (by decide +kernel) (by exists "ea") dk (by omega) (by decide) (by decide) fun r ys r1 r2 dk' => wa_nil ⟨Nat.le_of_ble_eq_true rfl, ?_⟩)))))))))
  exists "nx"
  refine wss_cons (ws_for C (wi_v (wiv_tup (by exists "ev")) ⟨fun i G' O' => ∃ (ms : List Int) (g4 : Option D), G' = [some (.obj a), some (.tup (log.map eEv)), some (.int span), some (.lst (ms.map D.int)), g4] ∧ O' = [(a, .lst ys)] ∧ ms.length = 3 + 4 * i ∧ i ≤ 30 ∧ ∀ m ∈ ms, 0 ≤ m ∧ m ≤ 12000, ⟨[0, 12000, r], _, rfl, rfl, rfl, Nat.zero_le _, fun m hm => ?_⟩,
    fun _ _ _ _ _ p hp => (List.not_mem_nil hp).elim, ?_, ?_⟩))
  · simp only [List.mem_cons, List.not_mem_nil, or_false] at hm
    rcases hm with rfl | rfl | rfl <;> omega
  · rintro i d G' O' hd ⟨ms, g4, rfl, rfl, hl, hi', hm⟩
    obtain ⟨⟨kd, t, v⟩, hx, rfl, hdr⟩ := map_at hd
    have hi := (List.getElem?_eq_some_iff.mp hx).1
    obtain ⟨e1, e2, _, _⟩ := ok.ev _ (List.mem_of_getElem? hx)
    dsimp only at e1 e2
    exists "t1"
    refine wss_one (ws_set C (by exists "sa") (by decide +kernel) (we_pv (pv_frz (pn_cat (by exists "ev") (by exists "ev") .lst .lst (by rw [List.length_map, hl]; show 3 + 4 * i + 4 ≤ 1000000; omega))) ?_))
    refine ⟨ms ++ [t, t + span, if t - 1 > 0 then t - 1 else 0, t + span - 1], some (eEv (kd, t, v)), ?_, rfl, by rw [List.length_append, hl]; show 3 + 4 * i + 4 = _; omega, by omega, fun m hm' => ?_⟩
    · rw [List.map_append]; rfl
    · rcases List.mem_append.mp hm' with h | h
      · exact hm m h
      · simp only [List.mem_cons, List.not_mem_nil, or_false] at h
        rcases h with rfl | rfl | rfl | rfl
        · omega
        · omega
        · split <;> omega
        · omega
  · rintro G' O' ⟨ms, g4, rfl, rfl, hl, hi', hm⟩
    refine wss_one (ws_ret (we_pv (by exists "ev") ?_))
    exact q ms ys (fun z => by rw [z, List.length_nil] at hl; omega) (by omega) hm dk'
/-! ### same, of tuples of numbers -/
abbrev enP (x : Nat × D) : D := .tup [.int (x.1 : Int), x.2]
theorem enumD_map (ds : List D) : enumD ds = (ds.mapIdx fun i d => (i, d)).map enP := by
  unfold enumD
  refine List.ext_getElem? fun j => ?_
  rw [List.getElem?_mapIdx, List.getElem?_map, List.getElem?_mapIdx]
  cases ds[j]? <;> rfl
theorem mem_idx {ds : List D} {x : Nat × D} (h : x ∈ ds.mapIdx fun i d => (i, d)) : ds[x.1]? = some x.2 := by
  obtain ⟨i, hi, e⟩ := List.mem_mapIdx.mp h
  subst e
  exact List.getElem?_eq_getElem hi
theorem atI_nat {ds : List D} {i : Nat} {d : D} (h : ds[i]? = some d) : atI ds (i : Int) = some d := by
  have hi := (List.getElem?_eq_some_iff.mp h).1
  unfold atI
  have e : ixN ds.length (i : Int) = some i := by
    unfold ixN
    rw [if_pos (by omega), if_pos (by omega)]
    rfl
  rw [e]
  exact h
def spSameI : DSp := fun ds O Φ _ => ∃ xs : List Int, ds = [.tup (xs.map D.int), .tup (xs.map D.int)] ∧ xs.length ≤ 1000 ∧ Φ (.bl true) O
theorem ok_sameI {M : Mach} {f : Addr} {fd : FuncData} {k : Nat} (F : Fun M.K "_law_same" "_law_same" (topS 44) f fd) (hen : M.mg "enumerate" = none) (hle : M.mg "len" = none) (g : GFn M "_law_sort" k spSort) (gs : GFn M "_law_same" k spSameS) :
    FnOk M.P M.w M.K M.mg M.base (L2N.CX M.P M.w) (k + 1) f fd ["_law_told", "_law_due"] (liftSp M.K spSameI) := by
  refine fn_body (N := nSame) (vn := ["_law_told", "_law_due"]) (gl := ["_law_sort", "enumerate", "len"]) F sc_same (by decide +kernel) (fun ds O Φ Ψ h => ?_) fun X B ds O Φ Ψ bd h => ?_
  · obtain ⟨_, rfl, _⟩ := h
    rfl
  obtain ⟨xs, rfl, hl, q⟩ := h
  have C := bd.C
  have cs : ∀ {G : Sl} {y : Str} {pos p1 p2 : Pos} {d : D}, TyD O d "tuple" → PEv X B G O (.Name y p2) d → PEv X B G O (.Call (.Name "_law_sort" p1) [.Name y p2] [] pos) (.int 5) := fun ht hv => pv_call C g bd.r (by decide +kernel) (pa_consv hv pa_nilv) fun Φ Ψ z => ⟨_, _, rfl, ht, z⟩
  have t1 : TyD O (.tup (xs.map D.int)) "tuple" := .tup _
  change WSs _ _ [some _, some _, none, none] _ _ _
  refine wss_cons (ws_ifv (c := false) (PTv.to (pt_ne (cs t1 (by exists "ev")) (cs (.tup _) (by exists "ev")) rfl) rfl) (fun h => by cases h) fun _ => wss_nil ?_)
  exists "nx"
  refine wss_cons (ws_ifv (c := true) (PWv.t (PWv.to (pwv_and (pt_gt (cs t1 (by exists "ev")) pv_int) fun _ => pwv_and1 (pt_lt (cs t1 (by exists "ev")) pv_int)) rfl)) (fun _ => ?_) fun h => by cases h)
  refine wss_cons (ws_ifv (c := false) (PTv.to (pt_ne (by exists "ev") (by exists "ev") rfl) (by rw [decide_eq_true rfl]; rfl)) (fun h => by cases h) fun _ => wss_nil ?_)
  exists "nx"
  refine wss_one (ws_ret (we_pv (PEv.to (pv_eqD C (pv_frz (pn_lc (own := [("_law_k", 2), ("_law_part", 3)]) (xs := (xs.map D.int).mapIdx fun i d => (i, d)) (enc := enP) (c := fun _ => false) (f := fun _ => .non) C (by decide +kernel) (enumD_map _ ▸ wiv_enumT C hen (by decide +kernel) (by exists "ev")) (fun p hp => (List.not_mem_nil hp).elim) (by rw [List.length_mapIdx, List.length_map]; omega) fun x hx => ⟨fun X' B' b => ?_⟩)) (by exists "ev") .val .val (by rw [List.filter_eq_nil_iff.mpr (fun _ _ => Bool.false_ne_true)]; decide +kernel) (by decide +kernel)) (by rw [List.filter_eq_nil_iff.mpr (fun _ _ => Bool.false_ne_true)]; exact congrArg D.bl (by decide +kernel))) q))
  have C' := b.C
  have hx' := mem_idx hx
  have hat := atI_nat hx'
  obtain ⟨i, d⟩ := x
  exists "wp"
  refine wg_tup C' (wgs_cons (wg_name C' (by exists "sa") (by decide +kernel) (by decide) (wgs_cons (wg_name C' (by exists "sa") (by decide +kernel) (by decide) (wgs_nil ⟨rfl, fun X2 b2 => ?_, fun z => by cases z⟩)))))
  have C2 := b2.C
  have hi : ∃ y : Int, d = .int y := by
    dsimp only at hx'
    rw [List.getElem?_map] at hx'
    cases hq : xs[i]? with
    | none => rw [hq] at hx'; cases hx'
    | some y => rw [hq] at hx'; exact ⟨y, (Option.some.inj hx').symm⟩
  obtain ⟨y, rfl⟩ := hi
  exact wf_pv (PTv.to (pt_notv (ca := true) (pt_ofv (PEv.to (pv_call C2 gs (b2.A ▸ bd.r) (by decide +kernel) (by exists "ea") fun Φ Ψ z => ⟨_, _, _, _, rfl, .int _, .int _, z⟩) (by rw [same_int])))) rfl) ⟨rfl, rfl⟩
/-! ### whether a life explains what was seen -/
def spExpl : DSp := fun ds O Φ _ => ∃ (log : List Ev) (span : Int) (seen : List (Int × Int)), ds = [.tup (log.map eEv), .int span, .tup (seen.map ePr)] ∧ O = [] ∧ OkLog log ∧ seen.length ≤ 1000 ∧ Φ (.bl (covF log span && fitsB (thF log) seen span)) []
abbrev nExpl : List Str := ["_law_log", "_law_span_here", "_law_seen", "_law_moment", "_law_number"]
theorem sc_expl : FnScope nExpl ["_law_log", "_law_span_here", "_law_seen"] (defScope (topS 52)) := ⟨rfl, rfl, rfl, by decide +kernel, rfl, by decide +kernel, by decide +kernel⟩
theorem refused_endsL {span : Int} {log : List Ev} (ok : OkLog log) : (playF span 12000 log).2.2.2 = (playF span 10000 log).2.2.2 := by
  unfold playF
  rw [endF_idxL, endF_idxL, run_til (t1 := 12000) (t2 := 10000) _ _ _ _ _ fun e he => ⟨by have := (ok.ev e he).2.1; omega, (ok.ev e he).2.1⟩]
theorem ok_expl {M : Mach} {f : Addr} {fd : FuncData} {k : Nat} (F : Fun M.K "_law_explains" "_law_explains" (topS 52) f fd) (g1 : GFn M "_law_lots" k spLots) (g2 : GFn M "_law_there" k spThereK) :
    FnOk M.P M.w M.K M.mg M.base (L2N.CX M.P M.w) (k + 1) f fd ["_law_log", "_law_span_here", "_law_seen"] (liftSp M.K spExpl) := by
  refine fn_body (N := nExpl) (vn := ["_law_log", "_law_span_here", "_law_seen"]) (gl := ["_law_lots"]) F sc_expl (by decide +kernel) (fun ds O Φ Ψ h => ?_) fun X B ds O Φ Ψ bd h => ?_
  · obtain ⟨_, _, _, rfl, _⟩ := h
    rfl
  obtain ⟨log, span, seen, rfl, rfl, ok, hsl, q⟩ := h
  have C := bd.C
  have hlen := ok.len
  have asc : AscE log := ascE_of_ord ok.ord
  have pe : PosEv log := fun e he => by have := (ok.ev e he).2.2.1; omega
  have el : (lotsF log span 12000).2.2 = (playF span 10000 log).2.2.2 := by
    rw [lotsF_play asc pe, ← refused_endsL ok]
  have eth : ∀ m, sumK (lotsF log span m).1 = thF log span m := fun m => by
    rw [lotsF_play asc pe]
    exact sumK_pr _
  change WSs _ _ [some _, some _, some _, none, none] _ _ _
  refine wss_cons (ws_if (WT.mono (Φ := fun c O' => c = !covF log span ∧ O' = []) (wt_cmp op_notN dop_isnot (nomark _) (we_less (we_ix (we_call C g1 bd.r takes_no (by decide +kernel) (wa_pv (by exists "ea") ⟨[], [], List.Perm.refl _, log, span, 12000, rfl, rfl, by omega, fun cells hc => we_pv pv_int ⟨_, 2, _, .tup, rfl, at2, [], List.nil_sublist _, we_pv pv_non ⟨rfl, _, rfl, ?_, rfl⟩⟩⟩))))) ?_))
  · rw [el]
    unfold covF
    cases (playF span 10000 log).2.2.2 <;> rfl
  rintro c' O' ⟨rfl, rfl⟩
  cases hc : covF log span with
  | false =>
    rw [hc, Bool.false_and] at q
    exact if_t (c := true) rfl (wss_one (ws_ret (we_pv (by exists "ev") q)))
  | true =>
    rw [hc, Bool.true_and] at q
    refine if_f (c := false) rfl (wss_nil ?_)
    exists "nx"
    have em : ∀ l : List (Int × Int), l.map (fun r => D.int r.1) = (l.map (·.1)).map D.int := fun l => by rw [List.map_map] <;> rfl
    refine wss_one (ws_ret (we_pv (PEv.to (pv_eqD C (pv_frz (pn_lc (own := [("_law_moment", 3), ("_law_number", 4)]) (xs := seen) (enc := ePr) (c := fun r => !decide (thF log span r.1 = r.2)) (f := fun r => D.int r.1) C (by decide +kernel) (wiv_tup (by exists "ev")) (fun p hp => (List.not_mem_nil hp).elim) (by omega) fun r hr => ⟨fun X' B' b => ?_⟩)) (by exists "ev") .val .val (by rw [em]; exact shaped_ints _) (by decide +kernel)) ?_) q))
    · have C' := b.C
      exists "wp"
      refine wg_tup C' (wgs_cons (wg_name C' (by exists "sa") (by decide +kernel) (by decide) (wgs_cons (wg_name C' (by exists "sa") (by decide +kernel) (by decide) (wgs_nil ⟨rfl, fun X2 b2 => ?_, fun _ X3 b3 => ?_⟩)))))
      · have C2 := b2.C
        exact wf_pv (pt_ne (PEv.to (pv_call C2 g2 (b2.A ▸ bd.r) (by decide +kernel) (by exists "ea") fun Φ Ψ z => ⟨log, span, r.1, rfl, by omega, z⟩) (congrArg D.int (eth _))) (by exists "ev") rfl) ⟨rfl, rfl⟩
      · have C3 := b3.C
        exact PEv.to (d := .int r.1) (by exists "ev") rfl
    · rw [em]
      refine congrArg D.bl (Eq.trans (eqv_ints _ []) ?_)
      show decide ((seen.filter _).map (·.1) = []) = fitsB (thF log) seen span
      unfold fitsB
      refine Bool.eq_iff_iff.mpr ?_
      rw [decide_eq_true_eq, List.map_eq_nil_iff, List.filter_eq_nil_iff, List.all_eq_true]
      refine forall_congr' fun r => forall_congr' fun _ => ?_
      cases h : decide (thF log span r.1 = r.2) <;> simp
/-! ### what the oracle says of Refused, TooMany -/
def TellsR (M : Mach) : Prop := ∀ c : Addr, M.mg "Refused" = some (.ref c) → ToldD M ⟨.ref c, some [("index", .int 0)]⟩ "Refused+0"
def TellsM (M : Mach) : Prop := ∀ c : Addr, M.mg "TooMany" = some (.ref c) → ToldD M ⟨.ref c, some [("limit", .int 30)]⟩ "Many+30"
theorem excRefused : exName (fun n => decide (n = "Refused")) = "Refused+" := by decide +kernel
theorem excMany : exName (fun n => decide (n = "TooMany")) = "Many+" := by decide +kernel
/-! ### the law -/
abbrev qLam : Str := "law.<locals>.<lambda>"
abbrev tb3 (P R S : Addr) : Own := [(P, .tab qLam), (R, .tab qBest), (S, .tab qFit)]
def spLawT (P R S : Addr) : DSp := fun ds O Φ _ => ∃ cells : List Int, ds = [.lst (cells.map D.int)] ∧ O = tb3 P R S ∧ cells.length ≤ 1000 ∧ Φ (.bl true) []
theorem perm4 {a b c d : Addr × OV} : [a, b, c, d].Perm [d, c, a, b] := List.Perm.trans (List.perm_append_comm (l₁ := [a, b]) (l₂ := [c, d])) (List.Perm.swap _ _ _)
theorem perm3 {a b c : Addr × OV} : [a, b, c].Perm [c, b, a] := List.Perm.trans (List.perm_append_comm (l₁ := [a]) (l₂ := [b, c])) (List.Perm.swap _ _ _)
theorem kWt : kW true = "earn" := if_pos rfl
theorem kWf : kW false = "spend" := if_neg Bool.false_ne_true
theorem Fine.poswT {log : List Ev} {span : Int} (h : Fine log span) : PosW log span := ⟨fun e he => by have := h.ok.ev e he; exact ⟨this.1, this.2.1, by have := this.2.2.1; omega⟩, ascE_of_ord h.ok.ord, h.no, h.l1, h.l2⟩
theorem sum_cap {log : List Ev} (h : ∀ e ∈ log, 0 ≤ e.2.2 ∧ e.2.2 ≤ 1000000) (p : Ev → Bool) : sumBy eam p log ≤ 1000000 * (log.length : Int) := by
  induction log with
  | nil => exact Int.le_refl _
  | cons e r ih =>
    have h1 := h e List.mem_cons_self
    have h2 := ih fun x hx => h x (List.mem_cons_of_mem _ hx)
    rw [sumBy_cons, List.length_cons]
    have : (if p e = true then eam e else 0) ≤ 1000000 := by
      split
      · exact h1.2
      · decide
    omega
theorem th_cap {log : List Ev} {span u : Int} (h : Fine log span) (u0 : 0 ≤ u) (u1 : u ≤ 12000) : 0 ≤ thF log span u ∧ thF log span u ≤ 1000000000 := by
  have hw := h.poswT
  have hl := h.ok.len
  refine ⟨(hw.inv u0).2.pos.total, ?_⟩
  show total (playF span u log).1 ≤ _
  rw [hw.bal u0 u1]
  have h1 := sum_cap (log := log) (fun e he => by have := h.ok.ev e he; exact ⟨by have := this.2.2.1; omega, this.2.2.2⟩) fun e => decide (e.2.1 ≤ u) && isE e
  have h2 : 0 ≤ sumBy eam (fun e => decide (e.2.1 ≤ u) && isS e) log := sumBy_nonneg fun e he => by
    show 0 ≤ e.2.2
    have := (h.ok.ev e he).2.2.1
    omega
  have h3 := LF_nonneg hw u
  omega
def posE (e : Ev) : Bool := decide (0 ≤ e.2.1) && decide (e.2.1 ≤ 10000) && decide (1 ≤ e.2.2) && decide (e.2.2 ≤ 1000000)
theorem okl_mk {log : List Ev} (h1 : log.all posE = true) (h2 : (log.zip (log.drop 1)).all (fun p => decide (p.1.2.1 ≤ p.2.2.1)) = true) (h3 : log.length ≤ 30) : OkLog log :=
  ⟨fun e he => by
    have z := List.all_eq_true.mp h1 e he
    unfold posE at z
    simp only [Bool.and_eq_true, decide_eq_true_iff] at z
    exact ⟨z.1.1.1, z.1.1.2, z.1.2, z.2⟩, fun p hp => by simpa using List.all_eq_true.mp h2 p hp, h3⟩
theorem oks1 {t n : Int} (h : 0 ≤ t ∧ t ≤ 12000 ∧ 0 ≤ n ∧ n ≤ 1000000000) : OkSeen [(t, n)] := ⟨Nat.le_refl _, Nat.le_of_ble_eq_true rfl, fun r hr => by rw [List.mem_singleton.mp hr]; exact h⟩
abbrev lgA : List Ev := [(true, 0, 5)]
abbrev lgB : List Ev := [(true, 0, 5), (true, 4, 5), (false, 6, 3)]
theorem okA : OkLog lgA := okl_mk (by decide +kernel) (by decide +kernel) (by decide +kernel)
theorem okB : OkLog lgB := okl_mk (by decide +kernel) (by decide +kernel) (by decide +kernel)
theorem lgAe : lgA.map eEv = [.tup [.str "earn", .int 0, .int 5]] := by
  show [D.tup [.str (kW true), _, _]] = _
  rw [kWt]
theorem lgBe : lgB.map eEv = [.tup [.str "earn", .int 0, .int 5], .tup [.str "earn", .int 4, .int 5], .tup [.str "spend", .int 6, .int 3]] := by
  show [D.tup [.str (kW true), _, _], D.tup [.str (kW true), _, _], D.tup [.str (kW false), _, _]] = _
  rw [kWt, kWf]
theorem fv1 : fitF [] [(5, 0)] = some (1, 1000) := by decide +kernel
theorem fv2 : fitF lgA [(3, 4)] = none := by decide +kernel
theorem fv3 : fitF lgB [(12, 5)] = some (9, 12) := by decide +kernel
theorem fv4 : fitF lgB [(12, 0)] = some (3, 8) := by decide +kernel
abbrev lives0 : List Int := (List.range 70).map (fun i : Nat => 1 + (i : Int)) ++ [1000]
theorem lives0_ok : ∀ x ∈ lives0, 1 ≤ x ∧ x ≤ 1000 := by decide +kernel
abbrev odd1 : List D := [.non, .tup [], .lst [.tup [.int 0, .int 0]], .tup (List.replicate (11 : Int).toNat [D.tup [.int 0, .int 0]]).flatten, .tup [.tup [.int 12001, .int 0]], .tup [.tup [.int 0, .int (-1)]], .tup [.tup [.int 0, .int (10 ^ (9 : Int).toNat + 1)]]]
abbrev odd2 : List D := [.tup [.tup [.bl true, .int 0]], .tup [.tup [.int 0]]]
theorem odd_bad {d : D} (h : d ∈ odd1 ++ odd2) : BadSeen d := by
  simp only [List.mem_append, List.mem_cons, List.not_mem_nil, or_false] at h
  rcases h with (rfl | rfl | rfl | rfl | rfl | rfl | rfl) | rfl | rfl
  · exact .non
  · exact .len _ (.inl rfl)
  · exact .lst _
  · exact .len _ (.inr (Nat.le_of_ble_eq_true rfl))
  · exact .tm _ _ _ (.int _) (by decide)
  · exact .am _ _ (by decide) (by decide) (by decide)
  · exact .am _ _ (by decide) (by decide) (by decide)
  · exact .tm _ _ _ (.bl _) rfl
  · exact .row _
theorem same_non : sameS .non .non = true := rfl
abbrev vLaw : List Str := ["_law_script", "_law_cell", "_law_deck_here", "_law_span_here", "_law_log", "_law_turn", "_law_moments_here", "_law_seen", "_law_pair", "_law_lives", "_law_near", "_law_good", "_law_odds", "_law_odd"]
abbrev nLaw : List Str := ["_law_script", "_law_cell", "_law_deck_here", "_law_span_here", "_law_log", "_law_turn", "_law_moments_here", "_law_seen", "_law_pair", "_law_lives", "_law_near", "_law_good", "_law_odds", "_law_odd", "_law_k", "_law_moment"]
abbrev gLaw : List Str := ["range", "list", "tuple", "max", "min", "int", "_law_deck", "_law_pick", "_law_events", "_law_same", "_law_explains", "fit_life", "_law_try"]
theorem sc_law : FnScope nLaw ["_law_script"] (defScope (topS 53)) := ⟨rfl, rfl, rfl, by decide +kernel, rfl, by decide +kernel, by decide +kernel⟩
abbrev gL (cells : List Int) (g1 g2 g3 g4 g5 g6 g7 g8 g9 g10 g11 g12 g13 : Option D) : Sl := [some (.lst (cells.map D.int)), g1, g2, g3, g4, g5, g6, g7, g8, g9, g10, g11, g12, g13, none, none]
theorem ok_law {M : Mach} {f : Addr} {fd : FuncData} {k : Nat} {c P R S : Addr} (F : Fun M.K "law" "law" (topS 53) f fd) (h1 : M.mg "range" = none) (h2 : M.mg "list" = none) (h3 : M.mg "tuple" = none) (h4 : M.mg "max" = none) (h5 : M.mg "min" = none) (h6 : M.mg "int" = none) (gdeck : GFn M "_law_deck" k spDeck) (gpick : GFn M "_law_pick" k spPick) (gev : GFn M "_law_events" k spEvents)
    (g0 : GFn M "_law_one" k spOne) (gmo : GFn M "_law_moments" k spMomN) (gth : GFn M "_law_there" k spThereK) (gexpl : GFn M "_law_explains" k spExpl) (gsame : GFn M "_law_same" k spSameS) (gsamei : GFn M "_law_same" k spSameI) (gfit : GFn M "fit_life" k (spFit S R)) (gfl : GFn M "fit_life" k (spFitL M)) (gfs : GFn M "fit_life" k (spFitS M))
    (gt : GDoor M "_law_try" "_law_door" nTry k (TTtry M)) (hcode : fd.code = .ref c) (TB : LamX.TabB M.base M.mg c P) (x1 : TellsX M "InvalidSeen" "Seen+") (x2 : TellsX M "InvalidLog" "Log+") :
    FnOk M.P M.w M.K M.mg M.base (L2N.CX M.P M.w) (k + 3) f fd ["_law_script"] (liftSp M.K (spLawT P R S)) := by
  refine fn_bodyC (k := k + 2) (N := nLaw) (vn := vLaw) (gl := gLaw) F sc_law (by decide +kernel) (fun ds O Φ Ψ h => ?_) fun X B ds O Φ Ψ bd env h => ?_
  · obtain ⟨_, rfl, _⟩ := h
    rfl
  obtain ⟨cells, rfl, rfl, hlen, q⟩ := h
  obtain ⟨L, env⟩ := env
  have hq : X.env.qual ++ "<lambda>" = qLam := by
    rw [env]
    show (envOfC "law" (defScope (topS 53)) L f fd.code).qual ++ "<lambda>" = qLam
    rfl
  have hcode' : X.env.code = .ref c := by
    rw [env]
    exact hcode
  have C := bd.C
  have br := bd.r.mono (Nat.le_add_right k 2)
  change WSs _ _ (gL cells none none none none none none none none none none none none none) _ _ _
  refine wss_cons (ws_for C (wi_v (ds := ((0 :: cells).take 6).map D.int) (wiv_lst (PEv.to (pv_frz (pn_slice (pv_frz (pn_cat (by exists "ev") (by exists "ev") .lst .lst (by rw [List.length_map]; show 1 + cells.length ≤ 1000000; omega))) .lst .none (.some pv_int))) (by rw [show (6 : Int) = ((6 : Nat) : Int) from rfl, cut_to, List.map_take]; rfl))) ⟨fun i G' O' => ∃ g1 g2 g3 g4 g5 g6 g7 g8 g9 g10 g11 g12 g13, G' = gL cells g1 g2 g3 g4 g5 g6 g7 g8 g9 g10 g11 g12 g13 ∧ O' = tb3 P R S, ⟨_, _, _, _, _, _, _, _, _, _, _, _, _, rfl, rfl⟩,
    fun _ _ _ _ _ p hp => (List.not_mem_nil hp).elim, ?_, ?_⟩))
  · rintro i d G' O' hd ⟨g1, g2, g3, g4, g5, g6, g7, g8, g9, g10, g11, g12, g13, rfl, rfl⟩
    obtain ⟨cell, hx, rfl, hdr⟩ := map_at hd
    exists "t1"
    refine wss_cons (ws_set C (by exists "sa") (by decide +kernel) (we_call C gdeck br takes_no (by decide +kernel) (wa_pv (by exists "ea") ⟨[], tb3 P R S, List.Perm.refl _, cell, 12, rfl, rfl, by decide, fun p xs dk => ?_⟩)))
    exists "nx"
    refine wss_cons (ws_set C (by exists "sa") (by decide +kernel) (we_op op_add dop_I0 (we_pv pv_int (we_call C gpick br takes_no (by decide +kernel) (wa_pv (by exists "ea") ⟨[(p, _)], tb3 P R S, List.Perm.refl _, p, xs, 12, 60, rfl, rfl, dk, by decide, by decide, by decide, fun r ys r0 r1 dk1 => ⟨1, r, rfl, rfl, trivial, ?_⟩⟩)))))
    exists "nx"
    obtain ⟨span, hspan⟩ : ∃ s, 1 + r = s := ⟨_, rfl⟩
    rw [hspan]
    have s1 : 1 ≤ span := by omega
    have s2 : span ≤ 60 := by omega
    clear hspan r0 r1
    refine wss_cons (ws_set C (by exists "sa") (by decide +kernel) (we_call C gev br takes_no (by decide +kernel) (wa_pv (by exists "ea") ⟨[(p, _)], tb3 P R S, List.Perm.refl _, p, ys, 13, span, 10, rfl, rfl, dk1, by decide, s1, by omega, by decide, by decide, fun log zs gd hl dk2 => ?_⟩)))
    exists "nx"
    have hl : log.length ≤ 10 := by omega
    have fine := gd.fine (by omega) s1 (by omega)
    have cov : covF log span = true := by
      unfold covF
      rw [fine.no] <;> rfl
    clear dk dk1
    refine wss_cons (ws_for C (wi_range1 C h1 (by decide +kernel) (we_pv pv_int ⟨4, rfl, by decide, by decide, fun i G' O' => ∃ (us : List D) (g5 g6 g7 g8 g9 g10 g11 : Option D), G' = gL cells (some (.int cell)) (some (.obj p)) (some (.int span)) (some (.tup (log.map eEv))) g5 g6 g7 g8 g9 g10 g11 g12 g13 ∧ O' = (p, .lst us) :: tb3 P R S ∧ Dk (1000 + 10 * (i : Int)) us, ⟨zs, _, _, _, _, _, _, _, rfl, rfl, dk2.mono (by decide)⟩,
      fun _ _ _ _ _ p hp => (List.not_mem_nil hp).elim, ?_, ?_⟩)))
    · rintro i d G' O' hd ⟨us, h5', h6', h7, h8, h9, h10, h11, rfl, rfl, dk3⟩
      have hi4 : i < 4 := by
        have := (List.getElem?_eq_some_iff.mp hd).1
        rw [List.length_map, List.length_range] at this
        exact this
      rw [List.getElem?_map, show Int.toNat 4 = 4 from rfl, List.getElem?_range hi4] at hd
      cases hd
      exists "t1"
      -- the moments
      refine wss_cut (Mid := fun G' O' => ∃ (a : Addr) (ms : List Int) (us : List D), G' = gL cells (some (.int cell)) (some (.obj p)) (some (.int span)) (some (.tup (log.map eEv))) (some (.int (0 + (i : Nat)))) (some (.obj a)) h7 h8 h9 h10 h11 g12 g13 ∧ O' = (a, .lst (ms.map D.int)) :: (p, .lst us) :: tb3 P R S ∧ 1 ≤ ms.length ∧ ms.length ≤ 4 ∧ (∀ m ∈ ms, 0 ≤ m ∧ m ≤ 12000) ∧ Dk (1009 + 10 * (i : Int)) us)
        (ws_setLc (Φ := fun _ _ => True) (own := [("_law_k", 14)]) C (by exists "sa") (by decide +kernel) rfl rfl (by decide +kernel) (wi_range1 C h1 (by decide +kernel) (we_op op_add dop_I0 (we_pv pv_int (we_call C gpick br takes_no (by decide +kernel) (wa_pv (by exists "ea") ⟨[(p, _)], tb3 P R S, List.Perm.refl _, p, us, 1000 + 10 * (i : Int), 4, rfl, rfl, dk3, by omega, by decide, by decide, fun r us2 r0 r1 dk4 => ⟨1, r, rfl, rfl, trivial, 1 + r, rfl, by omega, by omega,
          fun j acc O' => ∃ (us' : List D) (ms : List Int), acc = ms.map D.int ∧ O' = (p, .lst us') :: tb3 P R S ∧ Dk (1001 + 10 * (i : Int) + 2 * (j : Int)) us' ∧ ms.length = j ∧ ∀ m ∈ ms, 0 ≤ m ∧ m ≤ 12000, ⟨us2, [], rfl, rfl, dk4.mono (by omega), rfl, fun l h => (List.not_mem_nil h).elim⟩, fun _ _ _ _ _ p hp => (List.not_mem_nil hp).elim, ?_, ?_⟩⟩)))))) ?_
      · rintro j d acc O' hd ⟨us3, ms, rfl, rfl, dk5, hml, hms⟩ X' B' b
        have C' := b.C
        have hj : j < 4 := by
          have := (List.getElem?_eq_some_iff.mp hd).1
          rw [List.length_map, List.length_range] at this
          omega
        exists "wp"
        refine wg_name C' (by exists "sa") (by decide +kernel) (by decide) fun X2 b2 => wf_nil (if_t rfl fun X3 b3 => ?_)
        have C3 := b3.C
        exact we_one C3 g0 (b3.A ▸ br) (by decide +kernel) (wa_cons (we_pv (by exists "ev") (wa_cons (we_call C3 gmo (b3.A ▸ br) takes_no (by decide +kernel) (wa_pv (by exists "ea") ⟨[(p, _)], tb3 P R S, List.Perm.refl _, p, us3, _, log, span, rfl, rfl, dk5, by omega, fine.ok, s1, by omega, fun ns ws hne hnl hns dk6 => wa_nil ⟨p, ws, ns.map D.int, _, tb3 P R S, rfl, rfl, dk6, by omega, (fun z => hne (List.map_eq_nil_iff.mp z)), by rw [List.length_map]; omega, fun y vs hy dk7 => by
          obtain ⟨m, hm, rfl⟩ := List.mem_map.mp hy
          refine ⟨by rw [List.length_map]; omega, vs, ms ++ [m], by rw [List.map_append]; rfl, rfl, dk7.mono (by omega), by rw [List.length_append, List.length_singleton, hml], fun x hx => ?_⟩
          rcases List.mem_append.mp hx with hx | hx
          · exact hms x hx
          · rw [List.mem_singleton.mp hx]; exact hns m hm⟩⟩)))))
      · rintro acc O' ⟨us3, ms, rfl, rfl, dk5, hml, hms⟩ a
        rw [List.length_map, List.length_range] at hml dk5
        exact ⟨a, ms, us3, rfl, rfl, by omega, by omega, hms, dk5.mono (by omega)⟩
      rintro G' O' ⟨a, ms, us4, rfl, rfl, hml1, hml, hms, dk4⟩
      refine wss_freeze (p := a) (by exists "od") (by exists "fz") ?_
      -- what is seen
      refine wss_cons (ws_set C (by exists "sa") (by decide +kernel) (we_tuple C h3 (by decide +kernel) (we_pv (pv_frz (pn_lcA (own := [("_law_moment", 15)]) (xs := ms) (enc := D.int) (f := fun m => ePr (m, thF log span m)) C (by decide +kernel) (wiv_lst (by exists "ev")) (fun p hp => (List.not_mem_nil hp).elim) (by omega) fun m hm => ⟨fun X' B' b => ?_⟩)) ⟨_, .lst, ?_⟩)))
      · have C' := b.C
        exists "wp"
        refine wg_name C' (by exists "sa") (by decide +kernel) (by decide) ⟨rfl, fun X2 b2 => wf_nil ⟨rfl, rfl⟩, fun _ X3 b3 => ?_⟩
        have C3 := b3.C
        refine pv_tup (pa_consv (by exists "ev") (pa_consv (PEv.to (pv_call C3 gth (b3.A ▸ br) (by decide +kernel) (by exists "ea") fun Φ Ψ z => ⟨log, span, m, rfl, by omega, z⟩) ?_) pa_nilv))
        rw [lotsF_play (ascE_of_ord fine.ok.ord) fun e he => by have := (fine.ok.ev e he).2.2.1; omega]
        exact congrArg D.int (sumK_pr _)
      exists "nx"
      obtain ⟨seen0, hs0⟩ : ∃ s, (ms.map fun m => (m, thF log span m)) = s := ⟨_, rfl⟩
      have es0 : (ms.map fun m => ePr (m, thF log span m)) = seen0.map ePr := by rw [← hs0, List.map_map] <;> rfl
      rw [es0]
      have mem0 : ∀ r ∈ seen0, 0 ≤ r.1 ∧ r.1 ≤ 12000 ∧ thF log span r.1 = r.2 := fun r hr => by
        rw [← hs0] at hr
        obtain ⟨m, hm, rfl⟩ := List.mem_map.mp hr
        exact ⟨(hms m hm).1, (hms m hm).2, rfl⟩
      have len0 : seen0.length = ms.length := by rw [← hs0, List.length_map]
      have oks0 : OkSeen seen0 := ⟨by omega, by omega, fun r hr => by
        obtain ⟨a1, a2, a3⟩ := mem0 r hr
        have := th_cap fine a1 a2
        rw [a3] at this
        exact ⟨a1, a2, this.1, this.2⟩⟩
      have fit0 : fitsB (thF log) seen0 span = true := List.all_eq_true.mpr fun r hr => decide_eq_true (mem0 r hr).2.2
      clear hs0 es0
      refine wss_cut (Mid := fun G' O' => ∃ (seen : List (Int × Int)) (us : List D), G' = gL cells (some (.int cell)) (some (.obj p)) (some (.int span)) (some (.tup (log.map eEv))) (some (.int (0 + (i : Nat)))) (some (.lst (ms.map D.int))) (some (.tup (seen.map ePr))) h8 h9 h10 h11 g12 g13 ∧ O' = (p, .lst us) :: tb3 P R S ∧ OkSeen seen ∧ (i < 3 → fitsB (thF log) seen span = true) ∧ Dk (1010 + 10 * (i : Int)) us)
        (ws_ifv (c := decide ((0 : Int) + (i : Nat) = 3)) (pt_eq (by exists "ev") (by exists "ev") rfl) (fun hc => ?_) fun hc => wss_nil ⟨seen0, us4, rfl, rfl, oks0, fun _ => fit0, dk4.mono (by omega)⟩) ?_
      · have hi3 : i = 3 := by have := of_decide_eq_true hc; omega
        match ms, hml1, hms, len0 with
        | m0 :: mr, _, hms, len0 =>
          obtain ⟨m0a, m0b⟩ := hms m0 List.mem_cons_self
          refine wss_one (ws_set C (by exists "sa") (by decide +kernel) (we_catT (we_tup (wa_cons (we_tup (wa_cons (we_pv (pv_ix (d := .int m0) (by exists "ev") (by exists "ev") .lst (show atI ((m0 :: mr).map D.int) 0 = some (.int m0) from at0)) (wa_cons (we_call C gpick br takes_no (by decide +kernel) (wa_pv (by exists "ea") ⟨[(p, _)], tb3 P R S, List.Perm.refl _, p, us4, 1009 + 10 * (i : Int), 30, rfl, rfl, dk4, by omega, by decide, by decide, fun r us5 r0 r1 dk5 => wa_nil ⟨Nat.le_of_ble_eq_true rfl, wa_nil ⟨Nat.le_of_ble_eq_true rfl, we_pv (pv_sliceT (by exists "ev") (.some pv_int) .none) ⟨_, _, rfl, rfl, ?_, (m0, r) :: seen0.drop 1, us5, ?_, rfl, ⟨?_, ?_, fun x hx => ?_⟩, fun h => by omega, dk5.mono (by omega)⟩⟩⟩⟩))))))))))
          · rw [show (1 : Int) = ((1 : Nat) : Int) from rfl, cut_from, List.length_drop, List.length_map]
            show 1 + _ ≤ 1000000
            omega
          · rw [show (1 : Int) = ((1 : Nat) : Int) from rfl, cut_from, ← List.map_drop] <;> rfl
          · rw [List.length_cons]; omega
          · rw [List.length_cons, List.length_drop]; rw [List.length_cons] at len0 hml; omega
          · rcases List.mem_cons.mp hx with rfl | hx
            · exact ⟨m0a, m0b, r0, by show r ≤ _; omega⟩
            · exact oks0.ok x (List.mem_of_mem_drop hx)
      rintro G' O' ⟨seen, us6, rfl, rfl, oks, fit, dk6⟩
      clear dk4 oks0 fit0 mem0 len0 dk3
      obtain ⟨sp1, sp2⟩ := fitF_spec fine.ok oks
      have hsl := oks.l2
      refine wss_cons (ws_set C (by exists "sa") (by decide +kernel) (we_pv (pv_callP (Oa := [(S, _), (R, _)]) (Ob := [(p, _), (P, _)]) (v := eOP (fitF log seen)) perm4 C gfit br (by decide +kernel) (by exists "ea") fun Φ Ψ z => ⟨log, seen, rfl, rfl, fine.ok, oks, z⟩) ?_))
      exists "nx"
      refine wss_cons (ws_set C (by exists "sa") (by decide +kernel) (we_pv (PEv.to (d' := .lst (lives0.map D.int)) (pv_frz (pn_cat (pv_frz (pn_listRg2 C h2 h1 (by decide +kernel) (by decide +kernel) pv_int pv_int (by decide) (by decide) (by decide) (by decide))) (by exists "ev") .lst .lst (by decide +kernel))) (by rw [List.map_append, List.map_map]; rfl)) ?_))
      exists "nx"
      generalize fitF log seen = pr at sp1 sp2 ⊢
      -- the lives that are asked
      refine wss_cut (Mid := fun G' O' => ∃ nears : List Int, G' = gL cells (some (.int cell)) (some (.obj p)) (some (.int span)) (some (.tup (log.map eEv))) (some (.int (0 + (i : Nat)))) (some (.lst (ms.map D.int))) (some (.tup (seen.map ePr))) (some (eOP pr)) (some (.lst (nears.map D.int))) h10 h11 g12 g13 ∧ O' = (p, .lst us6) :: tb3 P R S ∧ ∀ x ∈ nears, 1 ≤ x ∧ x ≤ 1000) ?_ ?_
      · cases pr with
        | none => exact ws_ifv (c := false) (PTv.to (pt_isnot (by exists "ev") (by exists "ev")) rfl) (fun h => by cases h) fun _ => wss_nil ⟨lives0, rfl, rfl, lives0_ok⟩
        | some r =>
          obtain ⟨a1, a2, a3⟩ := sp1 r rfl
          obtain ⟨ra, rb⟩ := r
          dsimp only at a1 a2 a3
          refine ws_ifv (c := true) (PTv.to (pt_isnot (by exists "ev") (by exists "ev")) rfl) (fun _ => ?_) fun h => by cases h
          change WSs _ _ (gL cells (some (.int cell)) (some (.obj p)) (some (.int span)) (some (.tup (log.map eEv))) (some (.int (0 + (i : Nat)))) (some (.lst (ms.map D.int))) (some (.tup (seen.map ePr))) (some (.tup [.int ra, .int rb])) _ _ _ _ _) _ _ _
          refine wss_one (ws_set C (by exists "sa") (by decide +kernel) (we_pv (pv_frz (pn_cat (by exists "ev") (by exists "ev") .lst .lst (by rw [List.length_map]; show lives0.length + 4 ≤ 1000000; decide +kernel))) ⟨lives0 ++ [ra, rb, if ra - 1 > 1 then ra - 1 else 1, if rb + 1 < 1000 then rb + 1 else 1000], by rw [List.map_append]; rfl, rfl, fun x hx => ?_⟩))
          rcases List.mem_append.mp hx with h | h
          · exact lives0_ok x h
          · simp only [List.mem_cons, List.not_mem_nil, or_false] at h
            rcases h with rfl | rfl | rfl | rfl
            · omega
            · omega
            · split <;> omega
            · split <;> omega
      rintro G' O' ⟨nears, rfl, rfl, hnear⟩
      refine wss_cons (ws_for C (wi_v (wiv_lst (ds := nears.map D.int) (by exists "ev")) ⟨fun j G' O' => ∃ g10 g11 : Option D, G' = gL cells (some (.int cell)) (some (.obj p)) (some (.int span)) (some (.tup (log.map eEv))) (some (.int (0 + (i : Nat)))) (some (.lst (ms.map D.int))) (some (.tup (seen.map ePr))) (some (eOP pr)) (some (.lst (nears.map D.int))) g10 g11 g12 g13 ∧ O' = (p, .lst us6) :: tb3 P R S, ⟨_, _, rfl, rfl⟩, fun _ _ _ _ _ p hp => (List.not_mem_nil hp).elim, ?_, ?_⟩))
      · rintro j d G' O' hd ⟨g10, g11, rfl, rfl⟩
        obtain ⟨near, hn, rfl, _⟩ := map_at hd
        obtain ⟨n1, n2⟩ := hnear near (List.mem_of_getElem? hn)
        exists "t1"
        refine wss_cons (ws_set C (by exists "sa") (by decide +kernel) (we_pv (d := .bl (inR pr near)) ?_ ?_))
        · cases pr with
          | none => exact PEv.to (pv_and (ca := false) (cb := false) (PEv.to (pv_isnot (by exists "ev") (by exists "ev")) rfl) fun h => by cases h) rfl
          | some r =>
            change PEv _ _ (gL cells (some (.int cell)) (some (.obj p)) (some (.int span)) (some (.tup (log.map eEv))) (some (.int (0 + (i : Nat)))) (some (.lst (ms.map D.int))) (some (.tup (seen.map ePr))) (some (.tup [.int r.1, .int r.2])) _ _ _ _ _) _ _ _
            exact PEv.to (pv_and (ca := true) (cb := decide (r.1 ≤ near) && decide (near ≤ r.2)) (PEv.to (pv_isnot (by exists "ev") (by exists "ev")) rfl) fun _ => pv_one (by exists "ev")) rfl
        exists "nx"
        refine wss_one (ws_ifv (c := false) (PTv.to (pt_ne (PEv.to (pv_call' C gexpl br (by decide +kernel) (by exists "ea") fun Φ Ψ z => ⟨log, near, seen, rfl, rfl, fine.ok, by omega, z⟩) (congrArg D.bl (sp2 near n1 n2))) (by exists "ev") rfl) (by rw [decide_eq_true rfl] <;> rfl)) (fun h => by cases h) fun _ => wss_nil ⟨_, _, rfl, rfl⟩)
      rintro G' O' ⟨g10, g11, rfl, rfl⟩
      exists "nx"
      refine wss_cons (ws_ifv (c := false) ?_ (fun h => by cases h) fun _ => wss_nil ?_)
      · by_cases h3i : i < 3
        · have hin := sp2 span s1 (by omega)
          rw [cov, fit h3i] at hin
          cases pr with
          | none => cases hin
          | some r =>
            have hr := inR_some.mp hin.symm
            change PTv _ _ (gL cells (some (.int cell)) (some (.obj p)) (some (.int span)) (some (.tup (log.map eEv))) (some (.int (0 + (i : Nat)))) (some (.lst (ms.map D.int))) (some (.tup (seen.map ePr))) (some (.tup [.int r.1, .int r.2])) _ _ _ _ _) _ _ _
            refine PWv.t (PWv.to (pwv_and (ca := true) (cb := false) (PTv.to (pt_lt (by exists "ev") (by exists "ev")) (decide_eq_true (by omega))) fun _ => pwv_and1 (PWv.t (PWv.to (pwv_or (ca := false) (cb := false) (PTv.to (pt_is (by exists "ev") (by exists "ev")) rfl) fun _ => pwv_or1 (PTv.to (pt_notv (ca := true) (PTv.to (pt_leLe (by exists "ev") (by exists "ev") (by exists "ev")) ?_)) rfl)) rfl))) rfl)
            rw [decide_eq_true hr.1, decide_eq_true hr.2] <;> rfl
        · exact PWv.t (PWv.to (pwv_and (ca := false) (cb := false) (PTv.to (pt_lt (by exists "ev") (by exists "ev")) (decide_eq_false (by omega))) fun h => by cases h) rfl)
      exists "nx"
      refine wss_one (ws_ifv (c := false) ?_ (fun h => by cases h) fun _ => wss_nil ⟨us6, _, _, _, _, _, _, _, rfl, rfl, dk6.mono (by omega)⟩)
      cases pr with
      | none =>
        change PTv _ _ (gL cells (some (.int cell)) (some (.obj p)) (some (.int span)) (some (.tup (log.map eEv))) (some (.int (0 + (i : Nat)))) (some (.lst (ms.map D.int))) (some (.tup (seen.map ePr))) (some .non) _ _ _ _ _) _ _ _
        exact PTv.to (pt_notv (ca := true) (pt_ofv (PEv.to (pv_call C gsame br (by decide +kernel) (pa_consv (by exists "ev") (pa_consv (PEv.to (d' := .non) (pv_if (ca := true) (d1 := .non) (d2 := .non) (PTv.to (pt_is (by exists "ev") (by exists "ev")) rfl) (fun _ => pv_non) fun h => by cases h) rfl) pa_nilv)) fun Φ Ψ z => ⟨_, _, _, _, rfl, .non, .non, z⟩) (by rw [same_non])))) rfl
      | some r =>
        change PTv _ _ (gL cells (some (.int cell)) (some (.obj p)) (some (.int span)) (some (.tup (log.map eEv))) (some (.int (0 + (i : Nat)))) (some (.lst (ms.map D.int))) (some (.tup (seen.map ePr))) (some (.tup [.int r.1, .int r.2])) _ _ _ _ _) _ _ _
        exact PTv.to (pt_notv (ca := true) (pt_ofv (pv_call C gsamei br (by decide +kernel) (pa_consv (d := .tup [.int r.1, .int r.2]) (by exists "ev") (pa_consv (PEv.to (pv_if (ca := false) (d1 := .non) (d2 := .tup [.int r.1, .int r.2]) (PTv.to (pt_is (by exists "ev") (by exists "ev")) rfl) (fun h => by cases h) fun _ => pv_tup (pa_consv (pv_intI C (by exists "ev") h6 (by decide +kernel)) (pa_consv (pv_intI C (by exists "ev") h6 (by decide +kernel)) pa_nilv))) rfl) pa_nilv)) fun Φ Ψ z => ⟨[r.1, r.2], rfl, Nat.le_of_ble_eq_true rfl, z⟩))) rfl
    rintro G' O' ⟨us, g5, g6, g7, g8, g9, g10, g11, rfl, rfl, dk3⟩
    exists "nx"
    refine wss_cons (ws_set C (by exists "sa") (by decide +kernel) (we_pv (d := .lst odd1) (pv_frz (pn_lst (pa_consv (by exists "ev") (pa_consv (by exists "ev") (pa_consv (by exists "ev") (pa_consv (pv_repT (by exists "ev") pv_int (List.cons_ne_nil _ _) (by decide) (by decide) (Nat.le_of_ble_eq_true rfl)) (by exists "ea"))))))) ?_))
    exists "nx"
    have hmem : (P, OV.tab (X.env.qual ++ "<lambda>")) ∈ (p, OV.lst us) :: tb3 P R S := by
      rw [hq]
      exact List.mem_cons_of_mem _ List.mem_cons_self
    refine wss_one (ws_less (ws_for C (wi_v (ds := odd1 ++ odd2) (wiv_lst (pv_frz (pn_cat (by exists "ev") (by exists "ev") .lst .lst (by decide)))) ⟨fun j G' O' => ∃ g13 : Option D, G' = gL cells (some (.int cell)) (some (.obj p)) (some (.int span)) (some (.tup (log.map eEv))) g5 g6 g7 g8 g9 g10 g11 (some (.lst odd1)) g13 ∧ O' = (p, .lst us) :: tb3 P R S, ⟨_, rfl, rfl⟩, fun _ _ _ _ _ p hp => (List.not_mem_nil hp).elim, ?_,
      fun G' O' ⟨g13, e1, e2⟩ => ⟨tb3 P R S, by rw [e2]; exact List.sublist_cons_self _ _, _, _, _, _, _, _, _, _, _, _, _, _, _, e1, rfl⟩⟩)))
    rintro j d G' O' hd ⟨g13, rfl, rfl⟩
    have bad := odd_bad (List.mem_of_getElem? hd)
    exists "t1"
    refine wss_cons (ws_if (WT.mono (Φ := fun c O' => c = false ∧ O' = (p, .lst us) :: tb3 P R S) (wt_cmp op_ne dop_ne (nomark _) (we_tryX "InvalidSeen" _ ["_law_log", "_law_odd"] ["fit_life"] gt C bd.r TB hcode' hmem (by decide +kernel) (by decide +kernel) (by decide +kernel) x1 (fun X' B' lb => ?_) (we_pv pv_str ⟨_, rfl, _, rfl, rfl, rfl⟩))) ?_))
    · have C' := lb.C
      exact we_call C' gfs lb.r lb.tk (by decide +kernel) (wa_pv (by exists "ea") ⟨[], _, List.Perm.refl _, log, d, rfl, rfl, fine.ok, bad, fun c e => ⟨⟨c, e, rfl⟩, rfl⟩⟩)
    rintro c' O' ⟨rfl, rfl⟩
    rw [if_neg Bool.false_ne_true]
    refine wss_nil ?_
    exists "nx"
    refine wss_one (ws_if (WT.mono (Φ := fun c O' => c = false ∧ O' = (p, .lst us) :: tb3 P R S) (wt_cmp op_ne dop_ne (nomark _) (we_tryX "InvalidLog" _ ["_law_odd"] ["fit_life"] gt C bd.r TB hcode' hmem (by decide +kernel) (by decide +kernel) (by decide +kernel) x2 (fun X' B' lb => ?_) (we_pv pv_str ⟨_, rfl, _, rfl, rfl, rfl⟩))) ?_))
    · have C' := lb.C
      exact we_call C' gfl lb.r lb.tk (by decide +kernel) (wa_pv (by exists "ea") ⟨[], _, List.Perm.refl _, .non, d, rfl, rfl, .inl rfl, fun c e => ⟨⟨c, e, rfl⟩, rfl⟩⟩)
    rintro c' O' ⟨rfl, rfl⟩
    rw [if_neg Bool.false_ne_true]
    exact wss_nil ⟨_, rfl, rfl⟩
  · rintro G' O' ⟨g1, g2, g3, g4, g5, g6, g7, g8, g9, g10, g11, g12, g13, rfl, rfl⟩
    have fitc : ∀ {G : Sl} {pos p1 : Pos} {e1 e2 : Expr} {log : List Ev} {t n : Int} {r : Option (Int × Int)}, OkLog log → (0 ≤ t ∧ t ≤ 12000 ∧ 0 ≤ n ∧ n ≤ 1000000000) → fitF log [(t, n)] = r → PEv X B G (tb3 P R S) e1 (.tup (log.map eEv)) → PEv X B G (tb3 P R S) e2 (.tup [.tup [.int t, .int n]]) → starEach [e1, e2] X.env = (false, eval e1 X.env) :: starEach [e2] X.env → starEach [e2] X.env = (false, eval e2 X.env) :: starEach [] X.env →
      (backTo pos (starEach [e2] X.env)).any (·.1) = false → PEv X B G (tb3 P R S) (.Call (.Name "fit_life" p1) [e1, e2] [] pos) (eOP r) := fun ok h e he1 he2 st1 st2 hpl => by
      subst e
      exact pv_callP (Oa := [(S, _), (R, _)]) (Ob := [(P, _)]) perm3 C gfit br (by decide +kernel) (pa_consv he1 (pa_consv he2 pa_nilv st2) st1) (fun Φ Ψ z => ⟨_, [_], rfl, rfl, ok, oks1 h, z⟩) st1 hpl
    refine wss_cons (ws_ifv (c := false) (PWv.t (PWv.to (pwv_or (ca := false) (cb := false) (PTv.to (pt_neD C (fitc (log := []) (okl_mk rfl rfl (Nat.zero_le _)) (by decide) fv1 (PEv.to (d := .tup []) (by exists "ev") rfl) (by exists "ev") (star_cons rfl) (star_cons rfl) rfl) (by exists "ev") .val .val (by decide +kernel) (by decide +kernel)) (by decide +kernel)) fun _ => pwv_or1 (PTv.to (pt_isnot (fitc okA (by decide) fv2 (PEv.to (by exists "ev") (by rw [lgAe])) (by exists "ev") (star_cons rfl) (star_cons rfl) rfl) (by exists "ev")) rfl)) rfl)) (fun h => by cases h) fun _ => wss_nil ?_)
    exists "nx"
    refine wss_cons (ws_set C (by exists "sa") (by decide +kernel) (we_pv (PEv.to (d' := .tup (lgB.map eEv)) (by exists "ev") (by rw [lgBe])) ?_))
    exists "nx"
    exact wss_one (ws_ret (we_less (we_pv (PEv.to (pv_and (ca := true) (cb := true) (PEv.to (pv_eqD C (fitc okB (by decide) fv3 (by exists "ev") (by exists "ev") (star_cons rfl) (star_cons rfl) rfl) (by exists "ev") .val .val (by decide +kernel) (by decide +kernel)) (congrArg D.bl (by decide +kernel))) fun _ => pv_one (PEv.to (pv_eqD C (fitc okB (by decide) fv4 (by exists "ev") (by exists "ev") (star_cons rfl) (star_cons rfl) rfl) (by exists "ev") .val .val (by decide +kernel) (by decide +kernel)) (congrArg D.bl (by decide +kernel)))) rfl) ⟨[], List.nil_sublist _, q⟩)))
/-! ### the exceptions' facts -/
def excB (K : PySem.W.Frag) (D : Addr) : Bool := decide (PySem.W.findIn K (.ref D) "__getattribute__" = some (some (.builtin "BaseException.__getattribute__"))) && (decide (PySem.W.findIn K (.ref D) "__getattr__" = some none) && (decide (PySem.W.subIn K (.ref D) (.type "BaseException") = some true) && (PySem.W.hasDictIn K D &&
  (decide (PySem.W.findIn K (.ref D) "__class__" = some (some (.builtin "object.__class__"))) && (decide (PySem.W.specialIn K (.builtin "object.__class__") "__get__" = some (some (.builtin "getset_descriptor.__get__"))) && (decide (PySem.W.takesIn K (.builtin "object.__class__") = some true) && decide (PySem.W.mroIn K D (.type "object") = some true)))))))
theorem excB_ok {K : PySem.W.Frag} {D : Addr} (h : excB K D = true) : ExcC K D := by
  obtain ⟨h1, h⟩ := He.ba h
  obtain ⟨h2, h⟩ := He.ba h
  obtain ⟨h3, h⟩ := He.ba h
  obtain ⟨h4, h⟩ := He.ba h
  obtain ⟨h5, h⟩ := He.ba h
  obtain ⟨h6, h⟩ := He.ba h
  obtain ⟨h7, h8⟩ := He.ba h
  exact ⟨of_decide_eq_true h1, of_decide_eq_true h2, of_decide_eq_true h3, h4, of_decide_eq_true h5, of_decide_eq_true h6, of_decide_eq_true h7, of_decide_eq_true h8⟩
/-- all that is asked of the class x -/
def excOk (K : PySem.W.Frag) (x : Str) : Bool := excB K (He.ga K x) && ((xNames.all fun n => decide (PySem.W.kitOne K (.ref (He.ga K x)) (.ref (He.ga K n)) = some (decide (n = x)))) && (decide (PySem.W.kitOne K (.ref (He.ga K x)) (.type "ValueError") = some true) &&
  (decide (PySem.W.exmOne K (.ref (He.ga K x)) (.ref (He.ga K "Refused")) = some false) && (decide (PySem.W.exmOne K (.ref (He.ga K x)) (.ref (He.ga K "TooMany")) = some false) && decide (PySem.W.exmOne K (.ref (He.ga K x)) (.ref (He.ga K "PointError")) = some true)))))
def shortOk (x : Str) : Bool := decide (((Hz.kept xWords (xNames.map fun n => decide (n = x))).map (·.length)).sum ≤ 500) && decide ((Txt.join "" (Hz.kept xWords (xNames.map fun n => decide (n = x)))).length ≤ 500)
theorem tells_mk {M : Mach} {x z : Str} (ex : excOk M.K x = true) (gl : ∀ n ∈ ("PointError" : Str) :: xNames, M.mg n = some (.ref (He.ga M.K n))) (hx : x ∈ xNames) (sh : shortOk x = true) (hz : exName (fun n => decide (n = x)) = z) : TellsX M x z := fun c hc => by
  obtain ⟨h1, h⟩ := He.ba ex
  obtain ⟨h2, h⟩ := He.ba h
  obtain ⟨h3, h⟩ := He.ba h
  obtain ⟨h4, h⟩ := He.ba h
  obtain ⟨h5, h6⟩ := He.ba h
  obtain ⟨s1, s2⟩ := He.ba sh
  have e : c = He.ga M.K x := by
    have w := hc.symm.trans (gl x (List.mem_cons_of_mem _ hx))
    injection w with w
    injection w with w
  subst e
  refine .inl ⟨rfl, _, fun n => decide (n = x), rfl, rfl, ⟨excB_ok h1, fun n hn => ⟨_, gl n (List.mem_cons_of_mem _ hn), of_decide_eq_true (List.all_eq_true.mp h2 n hn)⟩, of_decide_eq_true h3, of_decide_eq_true s1, of_decide_eq_true s2⟩, ⟨⟨_, gl _ (by decide), of_decide_eq_true h4⟩, ⟨_, gl _ (by decide), of_decide_eq_true h5⟩, ⟨_, gl _ (by decide), of_decide_eq_true h6⟩⟩, hz.symm⟩
theorem gexc_mk {M : Mach} {x : Str} (m : M.mg x = some (.ref (He.ga M.K x))) (e : (He.Fa.exc x).ok M.K = true) : GExc M x := by
  obtain ⟨h1, h⟩ := He.ba e
  obtain ⟨h2, h⟩ := He.ba h
  obtain ⟨h3, h4⟩ := He.ba h
  exact ⟨_, m, h1, h2, of_decide_eq_true h3, of_decide_eq_true h4⟩
theorem gd_try {M : Mach} {f f0 : Addr} {fd fd0 : FuncData} {k : Nat} (m : M.mg "_law_try" = some (.ref f)) (F : Fun M.K "_law_try" "_law_try" (topS 41) f fd) (b : Binds M.K fd ["_law_door"] []) (m0 : M.mg "_law_name_of" = some (.ref f0)) (k0 : PySem.W.keepIn M.K (.ref f0) = true) (b0 : Binds M.K fd0 ["_law_e"] [])
    (N : Hz.FnHp M (k + 1) f0 fd0 ["_law_e"] (spNameOf M)) (gl : ∀ n ∈ ("PointError" : Str) :: xNames, M.mg n = some (.ref (He.ga M.K n))) (ms : M.mg "str" = none) : GDoor M "_law_try" "_law_door" nTry k (TTtry M) :=
  ⟨f, _, fd, m, F, b, sc_try, rfl, .inl (by decide +kernel), by decide, by decide, fun X cdv q e => by
    subst e
    exact gives_try N m0 k0 b0 _ _ _ (gl _ (by decide)) (gl _ (by decide)) (gl _ (by decide)) ms⟩
/-- a def's code object, as the head tells it -/
theorem code_of {K : PySem.W.Frag} {x qual : Str} {params : Arguments} {body : List Stmt} {scope : Scope} {dvs : List V} {kws : List (Str × V)} {p : Str × Option Str} {fd : FuncData} (D : FunD K x qual params body scope dvs kws (He.fAd K p) fd) : fd.code = .ref (He.cT K p).1 := by
  obtain ⟨a, b, c, d, e, g, h, i, j, l, e1, lk, hcd, _⟩ := D.ex
  subst e1
  obtain ⟨c', ec⟩ := He.codeIn_ref hcd
  rw [show (He.cT K p).1 = c' from He.codeOf_eq lk ec]
  exact ec
def hideT (H : Hp) (T : List (Addr × Str)) : Hp := fun b => if b ∈ T.map (·.1) then none else H b
/-- the law's call, with the tables of code objects -/
theorem law_dataT {K : PySem.W.Frag} {sp : DSp} {H : Hp} {a : Addr} (T : List (Addr × Str)) {ns : List Int} (hP : ∀ p ∈ T, H p.1 = some (.tbl #[])) (nd : (T.map (·.1)).Nodup) (hS : SqL K H a (ns.map V.int)) (h : sp [.lst (ns.map D.int)] (T.map fun p => (p.1, .tab p.2)) (fun d _ => d = .bl true) fun _ _ => False) : liftSp K sp [.ref a] H (fun v _ => v = .bl true) fun _ _ _ => False := by
  have at_ : ∀ b, b ∉ T.map (·.1) → hideT H T b = H b := fun b hb => if_neg hb
  have atP : ∀ b, b ∈ T.map (·.1) → hideT H T b = none := fun b hb => if_pos hb
  have tb : ∀ b, b ∈ T.map (·.1) → H b = some (.tbl #[]) := fun b hb => by
    obtain ⟨p, hp, rfl⟩ := List.mem_map.mp hb
    exact hP p hp
  have ek : keys (T.map fun p => (p.1, OV.tab p.2)) = T.map (·.1) := by
    unfold keys
    rw [List.map_map]
    rfl
  have S : Sat K ⟨hideT H T, H, keys (T.map fun p => (p.1, OV.tab p.2))⟩ [] (T.map fun p => (p.1, .tab p.2)) (hideT H T) [] H := ⟨rfl, fun i d e => by simp at e, fun b o e => by
    by_cases hb : b ∈ T.map (·.1)
    · rw [atP b hb] at e; cases e
    · rw [at_ b hb] at e; exact e, by rw [ek]; exact nd, fun p hp => by
    obtain ⟨t, ht, rfl⟩ := List.mem_map.mp hp
    refine ⟨atP _ (List.mem_map_of_mem (f := fun p : Addr × Str => p.1) ht), #[], hP t ht, True.intro, fun pos cv hc => ?_⟩
    have z : codeAmong pos [] = some cv := hc
    simp [codeAmong] at z, Same.refl _, fun b o e1 e2 e3 => by
    have hb : b ∉ T.map (·.1) := fun z => e3 (by show b ∈ keys _; rw [ek]; exact z)
    have e4 : hideT H T b = none := e2
    rw [at_ b hb, show H b = some o from e1] at e4
    cases e4⟩
  have hS' : SqL K (hideT H T) a (ns.map V.int) := by
    rcases hS with (z | ⟨o, z⟩) | z
    · exact .inl (.inl ((at_ a (fun e => by rw [tb a e] at z; cases z)).trans z))
    · exact .inl (.inr ⟨o, (at_ a (fun e => by rw [tb a e] at z; cases z)).trans z⟩)
    · exact .inr z
  refine ⟨_, _, [.lst (ns.map D.int)], _, _, S, .cons (.lst hS' (ints_reps ns)) .nil, h, fun v F' H' d O' G σ _ r e => ?_, fun cls dd F' H' x O' G σ _ _ z => z⟩
  rw [show d = .bl true from e] at r
  cases r
  rfl

/-! ### Refused and its __init__ -/
def oexB (K : PySem.W.Frag) (C : Addr) : Bool := (match K.lookup C with
  | some ⟨.type "type", _, .cls cd, sl⟩ => (match cd.mro, sl.toList with
    | .ref C' :: bm, [_, _, _, _, some (.builtin n), _] => C' == C && (n == "ValueError.__new__" && (!cd.hasDel && (cd.hasDict && PySem.HandSPX.refsVE bm)))
    | _, _ => false)
  | _ => false) && (decide (PySem.W.findIn K (.ref C) "__setattr__" = some (some (.builtin "object.__setattr__"))) && (decide (PySem.W.subIn K (.ref C) (.type "BaseException") = some true) && (decide (PySem.W.typeIn K (.ref C) = some (.type "type")) && PySem.W.keepIn K (.ref C))))
theorem oexB_ok {K : PySem.W.Frag} {C : Addr} (h : oexB K C = true) : OexC K C := by
  obtain ⟨q, h⟩ := He.ba h
  obtain ⟨h1, h⟩ := He.ba h
  obtain ⟨h2, h⟩ := He.ba h
  obtain ⟨h3, h4⟩ := He.ba h
  refine ⟨?_, of_decide_eq_true h1, of_decide_eq_true h2, of_decide_eq_true h3, h4⟩
  split at q
  · rename_i dd cd sl ho
    split at q
    · rename_i C' bm k0 k1 k2 k3 n k5 hm hs
      simp only [Bool.and_eq_true, beq_iff_eq, Bool.not_eq_true'] at q
      obtain ⟨rfl, rfl, hdel, hdct, hr⟩ := q
      obtain ⟨nm, bs, mro, ns, qn, hd, sn, sub, ab, col, del⟩ := cd
      dsimp only at hm hdel hdct
      subst hm hdel hdct
      have hsl : sl = #[k0, k1, k2, k3, some (.builtin "ValueError.__new__"), k5] := by
        obtain ⟨l⟩ := sl
        simp only at hs
        rw [hs]
      subst hsl
      exact ⟨nm, qn, ns, bs, bm, sn, sub, ab, col, dd, k0, k1, k2, k3, k5, ho, hr⟩
    · cases q
  · cases q
def veB (K : PySem.W.Frag) (B : Addr) : Bool := decide (PySem.W.specialIn K (.ref B) "__getattribute__" = some (some (.builtin "type.__getattribute__"))) && (PySem.W.readsIn K B (.type "type") && (match PySem.W.findCls K (.ref B) (.type "type") "__init__" with
  | some (.val v) => decide (v = .builtin "ValueError.__init__")
  | _ => false))
theorem veB_ok {K : PySem.W.Frag} {B : Addr} (h : veB K B = true) : Hz.VeB K B := by
  obtain ⟨h1, h⟩ := He.ba h
  obtain ⟨h2, h3⟩ := He.ba h
  refine ⟨of_decide_eq_true h1, h2, ?_⟩
  split at h3
  · rename_i v e
    rw [e, of_decide_eq_true h3]
  · cases h3
/-- all that is asked of Refused and of PointError -/
def refOk (K : PySem.W.Frag) : Bool := excB K (He.ga K "Refused") && ((xNames.all fun n => decide (PySem.W.kitOne K (.ref (He.ga K "Refused")) (.ref (He.ga K n)) = some (decide (n = "Refused")))) && (decide (PySem.W.kitOne K (.ref (He.ga K "Refused")) (.type "ValueError") = some true) &&
  (decide (PySem.W.exmOne K (.ref (He.ga K "Refused")) (.ref (He.ga K "Refused")) = some true) && (decide (PySem.W.exmOne K (.ref (He.ga K "Refused")) (.ref (He.ga K "TooMany")) = some false) && (xfB K (He.ga K "Refused") && (decide (PySem.W.findIn K (.ref (He.ga K "Refused")) "index" = some none) && (oexB K (He.ga K "Refused") &&
  (decide (PySem.W.findIn K (.ref (He.ga K "Refused")) "__init__" = some (some (.ref (He.fAd K ("Refused", some "__init__"))))) && (decide (PySem.W.typeIn K (.ref (He.fAd K ("Refused", some "__init__"))) = some (.type "function")) && veB K (He.ga K "PointError"))))))))))
theorem tellsR_mk {M : Mach} (ex : refOk M.K = true) (gl : ∀ n ∈ ("PointError" : Str) :: xNames, M.mg n = some (.ref (He.ga M.K n))) : TellsR M := fun c hc => by
  obtain ⟨h1, h⟩ := He.ba ex
  obtain ⟨h2, h⟩ := He.ba h
  obtain ⟨h3, h⟩ := He.ba h
  obtain ⟨h4, h⟩ := He.ba h
  obtain ⟨h4m, h⟩ := He.ba h
  obtain ⟨h5, h⟩ := He.ba h
  obtain ⟨h6, h⟩ := He.ba h
  obtain ⟨s1, s2⟩ := He.ba (show shortOk "Refused" = true by decide +kernel)
  have e : c = He.ga M.K "Refused" := by
    have w := hc.symm.trans (gl "Refused" (by decide))
    injection w with w
    injection w with w
  subst e
  refine .inr (.inl ⟨_, fun n => decide (n = "Refused"), 0, rfl, ⟨excB_ok h1, fun n hn => ⟨_, gl n (List.mem_cons_of_mem _ hn), of_decide_eq_true (List.all_eq_true.mp h2 n hn)⟩, of_decide_eq_true h3, of_decide_eq_true s1, of_decide_eq_true s2⟩,
    ⟨⟨_, gl _ (by decide), of_decide_eq_true h4⟩, xfB_ok h5, of_decide_eq_true h6⟩, by decide +kernel, ?_, ?_⟩)
  · rw [excRefused]
    decide +kernel
  · unfold exNameI
    rw [excRefused]
    decide +kernel
theorem gexcO_mk {M : Mach} {fd : FuncData} {k : Nat} (ex : refOk M.K = true) (gl : ∀ n ∈ ("PointError" : Str) :: xNames, M.mg n = some (.ref (He.ga M.K n))) (F : Fun M.K "__init__" "Refused.__init__" (clsM (topS 12)) (He.fAd M.K ("Refused", some "__init__")) fd) (b : Binds M.K fd ["self", "index"] []) : GExcO M "Refused" "index" (k + 1) := by
  obtain ⟨h1, h⟩ := He.ba ex
  obtain ⟨h2, h⟩ := He.ba h
  obtain ⟨h3, h⟩ := He.ba h
  obtain ⟨h4, h⟩ := He.ba h
  obtain ⟨h4m, h⟩ := He.ba h
  obtain ⟨h5, h⟩ := He.ba h
  obtain ⟨h6, h⟩ := He.ba h
  obtain ⟨h7, h⟩ := He.ba h
  obtain ⟨h8, h⟩ := He.ba h
  obtain ⟨h9, h10⟩ := He.ba h
  exact ⟨_, _, fd, gl _ (by decide), oexB_ok h7, of_decide_eq_true h8, of_decide_eq_true h9, of_decide_eq_true h6, fn_refinit F (gl _ (by decide)) (veB_ok h10), b⟩
/-- all that is asked of TooMany and of PointError -/
def manOk (K : PySem.W.Frag) : Bool := excB K (He.ga K "TooMany") && ((xNames.all fun n => decide (PySem.W.kitOne K (.ref (He.ga K "TooMany")) (.ref (He.ga K n)) = some (decide (n = "TooMany")))) && (decide (PySem.W.kitOne K (.ref (He.ga K "TooMany")) (.type "ValueError") = some true) &&
  (decide (PySem.W.exmOne K (.ref (He.ga K "TooMany")) (.ref (He.ga K "Refused")) = some false) && (decide (PySem.W.exmOne K (.ref (He.ga K "TooMany")) (.ref (He.ga K "TooMany")) = some true) && (xfB K (He.ga K "TooMany") && (decide (PySem.W.findIn K (.ref (He.ga K "TooMany")) "limit" = some none) && (oexB K (He.ga K "TooMany") &&
  (decide (PySem.W.findIn K (.ref (He.ga K "TooMany")) "__init__" = some (some (.ref (He.fAd K ("TooMany", some "__init__"))))) && (decide (PySem.W.typeIn K (.ref (He.fAd K ("TooMany", some "__init__"))) = some (.type "function")) && veB K (He.ga K "PointError"))))))))))
theorem tellsM_mk {M : Mach} (ex : manOk M.K = true) (gl : ∀ n ∈ ("PointError" : Str) :: xNames, M.mg n = some (.ref (He.ga M.K n))) : TellsM M := fun c hc => by
  obtain ⟨h1, h⟩ := He.ba ex
  obtain ⟨h2, h⟩ := He.ba h
  obtain ⟨h3, h⟩ := He.ba h
  obtain ⟨h4, h⟩ := He.ba h
  obtain ⟨h4m, h⟩ := He.ba h
  obtain ⟨h5, h⟩ := He.ba h
  obtain ⟨h6, h⟩ := He.ba h
  obtain ⟨s1, s2⟩ := He.ba (show shortOk "TooMany" = true by decide +kernel)
  have e : c = He.ga M.K "TooMany" := by
    have w := hc.symm.trans (gl "TooMany" (by decide))
    injection w with w
    injection w with w
  subst e
  refine .inr (.inr ⟨_, fun n => decide (n = "TooMany"), 30, rfl, ⟨excB_ok h1, fun n hn => ⟨_, gl n (List.mem_cons_of_mem _ hn), of_decide_eq_true (List.all_eq_true.mp h2 n hn)⟩, of_decide_eq_true h3, of_decide_eq_true s1, of_decide_eq_true s2⟩,
    ⟨⟨_, gl _ (by decide), of_decide_eq_true h4⟩, ⟨_, gl _ (by decide), of_decide_eq_true h4m⟩, xfB_ok h5, of_decide_eq_true h6⟩, by decide +kernel, ?_, ?_⟩)
  · rw [excMany]
    decide +kernel
  · unfold exNameI
    rw [excMany]
    decide +kernel
theorem gexcM_mk {M : Mach} {fd : FuncData} {k : Nat} (ex : manOk M.K = true) (gl : ∀ n ∈ ("PointError" : Str) :: xNames, M.mg n = some (.ref (He.ga M.K n))) (F : Fun M.K "__init__" "TooMany.__init__" (clsM (topS 13)) (He.fAd M.K ("TooMany", some "__init__")) fd) (b : Binds M.K fd ["self", "limit"] []) : GExcO M "TooMany" "limit" (k + 1) := by
  obtain ⟨h1, h⟩ := He.ba ex
  obtain ⟨h2, h⟩ := He.ba h
  obtain ⟨h3, h⟩ := He.ba h
  obtain ⟨h4, h⟩ := He.ba h
  obtain ⟨h4m, h⟩ := He.ba h
  obtain ⟨h5, h⟩ := He.ba h
  obtain ⟨h6, h⟩ := He.ba h
  obtain ⟨h7, h⟩ := He.ba h
  obtain ⟨h8, h⟩ := He.ba h
  obtain ⟨h9, h10⟩ := He.ba h
  exact ⟨_, _, fd, gl _ (by decide), oexB_ok h7, of_decide_eq_true h8, of_decide_eq_true h9, of_decide_eq_true h6, fn_manyinit F (gl _ (by decide)) (veB_ok h10), b⟩
/-! ### the hook, the interpreter's own statics with it (readsIn looks there) -/
def asY (g : Addr → Option Obj) (n : Nat) : List Addr := He.asD g n ++ [cStatics]
def obsY (n : Nat) (fa : List He.Fa) (fn : List He.DefD) (ts : List He.Tab) (tf : List He.Defn) (ex : PySem.W.Frag → Bool) (g : Addr → Option Obj) : He.AlX := (He.obsT fa fn ts (He.frT g (asY g n)), ex (He.frT g (asY g n)) && He.tabsB g tf (He.frT g (asY g n)))
theorem saysY_of {n : Nat} {fa : List He.Fa} {fn : List He.DefD} {ts : List He.Tab} {tf : List He.Defn} {ex : PySem.W.Frag → Bool} {w : World} {h : Heap} (e : obsY n fa fn ts tf ex h.get? = He.valX fn ts w) : He.SaysX fa fn ts tf ex w h (He.frT h.get? (asY h.get? n)) := by
  have e1 : He.obsT fa fn ts (He.frT h.get? (asY h.get? n)) = He.valT fn ts w := congrArg (fun z : He.AlX => z.1) e
  have e2 : (ex (He.frT h.get? (asY h.get? n)) && He.tabsB h.get? tf (He.frT h.get? (asY h.get? n))) = true := congrArg (fun z : He.AlX => z.2) e
  obtain ⟨h1, h2⟩ := He.ba e2
  have key : ∀ p ∈ tf, PySem.W.codeHdIn (He.frT h.get? (asY h.get? n)) (He.cT (He.frT h.get? (asY h.get? n)) p).1 (He.cT (He.frT h.get? (asY h.get? n)) p).2 = true ∧ ∃ o, h.get? (He.cT (He.frT h.get? (asY h.get? n)) p).2 = some o ∧ He.emptyTab o = true := fun p hp => by
    obtain ⟨h3, h4⟩ := He.ba (List.all_eq_true.mp h2 p hp)
    refine ⟨h3, ?_⟩
    cases q : h.get? (He.cT (He.frT h.get? (asY h.get? n)) p).2 with
    | none =>
      rw [q] at h4
      cases h4
    | some o =>
      rw [q] at h4
      exact ⟨o, rfl, h4⟩
  exact ⟨e1, h1, fun p hp => (key p hp).1, fun p hp => by
    obtain ⟨_, o, q, z⟩ := key p hp
    exact He.frT_none q z, fun p hp => by
    obtain ⟨_, o, q, z⟩ := key p hp
    rw [q, He.emptyTab_eq z]⟩
def hookY (n : Nat) (fa : List He.Fa) (fn : List He.DefD) (ts : List He.Tab) (tf : List He.Defn) (ex : PySem.W.Frag → Bool) : PySem.W.Hook where
  α := He.AlX
  obs := fun s => obsY n fa fn ts tf ex s.heap.get?
  val := fun w => He.valX fn ts w
  says := fun w h => ∃ K : PySem.W.Frag, K.In h ∧ He.SaysX fa fn ts tf ex w h K
  of := fun _ _ e => ⟨_, He.frT_in, saysY_of e⟩
  keeps := fun _ _ _ ⟨K, hK, c⟩ k => ⟨K, PySem.W.Frag.In.keeps hK k, ⟨c.t, c.more, c.hd, c.out, fun p hp => k _ _ (c.empty p hp)⟩⟩
theorem obsY_eq {n : Nat} {fa : List He.Fa} {fn : List He.DefD} {ts : List He.Tab} {tf : List He.Defn} {ex : PySem.W.Frag → Bool} {g : Addr → Option Obj} {s : Shared} (h : ∀ a, g a = s.heap.get? a) : obsY n fa fn ts tf ex g = (hookY n fa fn ts tf ex).obs s := by
  have e : g = s.heap.get? := funext h
  rw [e] <;> rfl

/-! ### the head: the facts by names, the run -/
section
variable {K : PySem.W.Frag} {x qual : Str} {params : Arguments} {body : List Stmt} {scope : Scope} {kws : List (Str × V)} {f : Addr} {fd : FuncData} {ps ks : List Str}
/-- a def without defaults, its body taken from its statement -/
theorem fun_st {st : Stmt} (F : FunD K x qual (defArgs st) (defBody st) (defScope st) [] kws f fd) : Fun K x qual st f fd := by
  obtain ⟨a, b, c, d, e, g, h, i, j, l, e1, e2, e3, e4, _⟩ := F.ex
  rcases e4 with ⟨_, z⟩ | ⟨z, _⟩
  · cases z
    exact ⟨⟨a, b, d, e, g, h, i, j, l, e1, e2, e3⟩, F.kp⟩
  · exact (z rfl).elim
/-- .. called with its last parameters by keyword -/
theorem kb_st (n : Nat) (hn : ps.length = n + ks.length) (h0 : 0 < ps.length) (F : FunD K x qual params body scope [] kws f fd)
    (h : ∀ (kV doc pm : Value) (an : Option Addr) (cdv ct : Value) (us ws : List Value), us.length = n → ws.length = ks.length → bindArgs (PySem.W.fnOf x qual params body scope .none kV doc pm an cdv ct) ⟨us, ks.zip ws⟩ = pure (ps.zip (us ++ ws))) :
    KBinds K fd ps ks (kwJoin ks) (kwJoin ks) := by
  obtain ⟨a, b, c, d, e, g, i, j, l, m, e1, e2, e3, e4, _⟩ := F.ex
  rcases e4 with ⟨_, z⟩ | ⟨z, _⟩
  · cases z
    subst e1
    exact kbinds_mk n hn h0 fun us ws h1 h2 => h d e g i j l us ws h1 h2
  · exact (z rfl).elim
end
/-- the law's call by what is shown of data -/
theorem law_data {K : PySem.W.Frag} {sp : DSp} {H : Hp} {a : Addr} {ns : List Int} (hS : SqL K H a (ns.map V.int)) (h : sp [.lst (ns.map D.int)] [] (fun d _ => d = .bl true) fun _ _ => False) : liftSp K sp [.ref a] H (fun v _ => v = .bl true) fun _ _ _ => False := by
  have S : Sat K ⟨H, H, keys []⟩ [] [] H [] H := ⟨rfl, fun i d e => by simp at e, Same.refl _, List.nodup_nil, fun _ hp => (List.not_mem_nil hp).elim, Same.refl _, fun a o e1 e2 _ => by
    have e3 : H a = some o := e1
    rw [show H a = none from e2] at e3
    cases e3⟩
  refine ⟨H, [], [.lst (ns.map D.int)], _, _, S, .cons (.lst hS (ints_reps ns)) .nil, h, fun v F' H' d O' G σ _ r e => ?_, fun cls dd F' H' x O' G σ _ _ z => z⟩
  rw [show d = .bl true from e] at r
  cases r
  rfl

theorem law_askT {P R S : Addr} (ns : List Int) (hl : ns.length ≤ 63) (hb : ∀ z ∈ ns, Builtin.Int.intBits z ≤ 1048576) : spLawT P R S [.lst (ns.map D.int)] [(P, .tab qLam), (R, .tab qBest), (S, .tab qFit)] (fun d _ => d = .bl true) fun _ _ => False := ⟨ns, rfl, rfl, by omega, rfl⟩

def dd__law_name_of : He.DefD := ⟨("_law_name_of", none), "_law_name_of", "_law_name_of", defArgs (topS 40), defBody (topS 40), defScope (topS 40), [], []⟩
def dd__law_try : He.DefD := ⟨("_law_try", none), "_law_try", "_law_try", defArgs (topS 41), defBody (topS 41), defScope (topS 41), [], []⟩
def dd_refinit : He.DefD := ⟨("Refused", some "__init__"), "__init__", "Refused.__init__", defArgs (clsM (topS 12)), defBody (clsM (topS 12)), defScope (clsM (topS 12)), [], []⟩
def dd_manyinit : He.DefD := ⟨("TooMany", some "__init__"), "__init__", "TooMany.__init__", defArgs (clsM (topS 13)), defBody (clsM (topS 13)), defScope (clsM (topS 13)), [], []⟩
def dd_lapse : He.DefD := ⟨("lapse", none), "lapse", "lapse", defArgs (topS 24), defBody (topS 24), defScope (topS 24), [], []⟩
def dd_take : He.DefD := ⟨("take", none), "take", "take", defArgs (topS 25), defBody (topS 25), defScope (topS 25), [], []⟩
def dd_play : He.DefD := ⟨("play", none), "play", "play", defArgs (topS 26), defBody (topS 26), defScope (topS 26), [], []⟩
def dd_is_from : He.DefD := ⟨("is_from", none), "is_from", "is_from", defArgs (topS 20), defBody (topS 20), defScope (topS 20), [], []⟩
def dd_is_event : He.DefD := ⟨("is_event", none), "is_event", "is_event", defArgs (topS 21), defBody (topS 21), defScope (topS 21), [], []⟩
def dd_is_log : He.DefD := ⟨("is_log", none), "is_log", "is_log", defArgs (topS 22), defBody (topS 22), defScope (topS 22), [], []⟩
def dd_need_log : He.DefD := ⟨("need_log", none), "need_log", "need_log", defArgs (topS 23), defBody (topS 23), defScope (topS 23), [], []⟩
def dd_refused_at : He.DefD := ⟨("refused_at", none), "refused_at", "refused_at", defArgs (topS 27), defBody (topS 27), defScope (topS 27), [], []⟩
def dd_balance_of : He.DefD := ⟨("balance_of", none), "balance_of", "balance_of", defArgs (topS 29), defBody (topS 29), defScope (topS 29), [], []⟩
def dd__law_deck : He.DefD := ⟨("_law_deck", none), "_law_deck", "_law_deck", defArgs (topS 38), defBody (topS 38), defScope (topS 38), [], []⟩
def dd__law_pick : He.DefD := ⟨("_law_pick", none), "_law_pick", "_law_pick", defArgs (topS 39), defBody (topS 39), defScope (topS 39), [], []⟩
def dd__law_one : He.DefD := ⟨("_law_one", none), "_law_one", "_law_one", defArgs (topS 42), defBody (topS 42), defScope (topS 42), [], []⟩
def dd__law_span : He.DefD := ⟨("_law_span", none), "_law_span", "_law_span", defArgs (topS 50), defBody (topS 50), defScope (topS 50), [], []⟩
def dd__law_lots : He.DefD := ⟨("_law_lots", none), "_law_lots", "_law_lots", defArgs (topS 45), defBody (topS 45), defScope (topS 45), [], []⟩
def dd__law_there : He.DefD := ⟨("_law_there", none), "_law_there", "_law_there", defArgs (topS 46), defBody (topS 46), defScope (topS 46), [], []⟩
def dd__law_gone : He.DefD := ⟨("_law_gone", none), "_law_gone", "_law_gone", defArgs (topS 47), defBody (topS 47), defScope (topS 47), [], []⟩
def dd__law_moments : He.DefD := ⟨("_law_moments", none), "_law_moments", "_law_moments", defArgs (topS 51), defBody (topS 51), defScope (topS 51), [], []⟩
def dd__law_events : He.DefD := ⟨("_law_events", none), "_law_events", "_law_events", defArgs (topS 49), defBody (topS 49), defScope (topS 49), [], []⟩
def dd__law_sort : He.DefD := ⟨("_law_sort", none), "_law_sort", "_law_sort", defArgs (topS 43), defBody (topS 43), defScope (topS 43), [], []⟩
def dd__law_same : He.DefD := ⟨("_law_same", none), "_law_same", "_law_same", defArgs (topS 44), defBody (topS 44), defScope (topS 44), [], []⟩
def dd_first_of : He.DefD := ⟨("first_of", none), "first_of", "first_of", defArgs (topS 34), defBody (topS 34), defScope (topS 34), [], []⟩
def dd_best_range : He.DefD := ⟨("best_range", none), "best_range", "best_range", defArgs (topS 35), defBody (topS 35), defScope (topS 35), [], []⟩
def dd_need_seen : He.DefD := ⟨("need_seen", none), "need_seen", "need_seen", defArgs (topS 33), defBody (topS 33), defScope (topS 33), [], []⟩
def dd_fit_life : He.DefD := ⟨("fit_life", none), "fit_life", "fit_life", defArgs (topS 36), defBody (topS 36), defScope (topS 36), [], []⟩
def dd__law_explains : He.DefD := ⟨("_law_explains", none), "_law_explains", "_law_explains", defArgs (topS 52), defBody (topS 52), defScope (topS 52), [], []⟩
def dd_law : He.DefD := ⟨("law", none), "law", "law", defArgs (topS 53), defBody (topS 53), defScope (topS 53), [], []⟩
def hdFn_0 : List He.DefD := [dd__law_name_of, dd__law_try, dd_refinit, dd_manyinit, dd_lapse, dd_take, dd_play, dd_is_from, dd_is_event, dd_is_log, dd_need_log, dd_refused_at, dd_balance_of, dd__law_deck, dd__law_pick, dd__law_one, dd__law_span, dd__law_lots, dd__law_there, dd__law_gone, dd__law_moments, dd__law_events, dd__law_sort, dd__law_same, dd_first_of, dd_best_range, dd_need_seen, dd_fit_life, dd__law_explains, dd_law]
def hdFn : List He.DefD := hdFn_0
def hdFa_0 : List He.Fa := [.glo "InvalidLog", .glo "InvalidLife", .glo "InvalidTime", .glo "InvalidAmount", .glo "InvalidIndex", .glo "InvalidChoice", .glo "InvalidSeen", .glo "InvalidNumber", .glo "NotEnough", .glo "NothingToUndo", .glo "Refused", .glo "TooMany", .glo "PointError", .glo "_law_name_of", .glo "_law_try", .free "isinstance", .free "zip", .free "ValueError", .free "str", .glo "lapse", .glo "take", .free "min", .glo "play", .free "enumerate", .free "sum", .free "tuple", .glo "is_from", .free "int", .free "bool", .glo "is_event"]
def hdFa_1 : List He.Fa := [.free "len", .int "LAST_TIME" 10000, .int "LARGEST" 1000000, .glo "is_log", .free "all", .int "MOST_EVENTS" 30, .glo "need_log", .glo "refused_at", .glo "balance_of", .glo "_law_deck", .glo "_law_pick", .glo "_law_one", .glo "_law_span", .glo "_law_lots", .glo "_law_there", .glo "_law_gone", .glo "_law_moments", .free "max", .glo "_law_events", .free "range", .glo "_law_sort", .free "list", .glo "_law_same", .glo "first_of", .glo "best_range", .exc "InvalidLog", .glo "need_seen", .int "MOST_SEEN" 10, .int "LAST_MOMENT" 12000, .int "MOST_BALANCE" 1000000000]
def hdFa_2 : List He.Fa := [.exc "InvalidSeen", .glo "fit_life", .int "LONGEST_LIFE" 1000, .glo "_law_explains", .glo "law"]
def hdFa : List He.Fa := hdFa_0 ++ (hdFa_1 ++ (hdFa_2))
def hdNo_0 : List Str := ["__name__", "PointError", "InvalidLog", "InvalidLife", "InvalidTime", "InvalidAmount", "InvalidIndex", "InvalidChoice", "InvalidSeen", "InvalidNumber", "NotEnough", "NothingToUndo", "Refused", "TooMany", "LAST_TIME", "LAST_MOMENT", "LONGEST_LIFE", "LARGEST", "MOST_EVENTS", "is_from", "is_event", "is_log", "need_log", "lapse", "take", "play", "refused_at", "balance_of", "MOST_SEEN", "MOST_BALANCE"]
def hdNo_1 : List Str := ["need_seen", "first_of", "best_range", "fit_life", "_law_deck", "_law_pick", "_law_name_of", "_law_try", "_law_one", "_law_sort", "_law_same", "_law_lots", "_law_there", "_law_gone", "_law_merged", "_law_events", "_law_span", "_law_moments", "_law_explains"]
def hdNo : List Str := hdNo_0 ++ (hdNo_1)
abbrev hdR : PySem.W.OpenRow := PySem.W.OpenLaw.row PySem.Challenge.rw_lapsepoints_k12_whole_lives_told_back
abbrev hdTf : List He.Defn := [("law", none), ("best_range", none), ("fit_life", none)]
def hdEx (K : PySem.W.Frag) : Bool := (["InvalidSeen", "InvalidLog"] : List Str).all (excOk K) && (decide ((hdTf.map fun p => (He.cT K p).2).Nodup) && (refOk K && manOk K))
abbrev hdK : PySem.W.Hook := hookY 5 hdFa hdFn [] hdTf hdEx
def hdOb (s : PySem.W.SharedT) : He.AlX := obsY 5 hdFa hdFn [] hdTf hdEx (HandSHeadRun.getT s)
theorem hdOb_eq (s : PySem.W.SharedT) : hdOb s = hdK.obs s.abs := obsY_eq (HandSHeadRun.getT_eq s)
theorem hdRun (w : World) : HandSHeadRun.RunEq hdR (PySem.W.view hdR.prog [53]) hdK hdOb 20000 hdNo w := by
  intro os
  kernel_rfl
theorem hdFacts {P : Program} {w : World} {K : PySem.W.Frag} {h : Heap} {mg : Str → Option Value} {f : Addr} (X : K.In h) (G : h.Ns mainGlobals mg) (hfa : mg ("law" : Str) = some (.ref f)) (c : He.SaysD hdFa hdFn K) (hex : hdEx K = true) :
    ∃ fd : FuncData, (∀ (s : Shared) (v : Value), BindsTo s fd ⟨[v], []⟩ [("_law_script", v)]) ∧ ∀ base : Heap, K.In base → base.Ns mainGlobals mg → (∀ p ∈ hdTf, LamX.TabB base mg (He.cT K p).1 (He.cT K p).2) → FnOk P w K mg base (L2N.CX P w) 23 f fd ["_law_script"] (liftSp K (spLawT (He.cT K ("law", none)).2 (He.cT K ("best_range", none)).2 (He.cT K ("fit_life", none)).2)) := by
  obtain ⟨d_law, D_law⟩ := c.def_ 29 (d := dd_law) rfl
  have e : f = He.fAd K ("law", none) := by
    have z := hfa.symm.trans (He.glo_ok X G (c.fact 64 (f := .glo "law") rfl))
    injection z with z
    injection z with z
  subst e
  have b_law := FunD.bindsA (ps := ["_law_script"]) D_law fun _ _ _ _ _ _ us hl => match us, hl with | [_], _ => rfl
  refine ⟨d_law, fun s v => b_law s [v] rfl, fun base _ _ hTB => ?_⟩
  let M : Mach := ⟨P, w, K, mg, base⟩
  have m_InvalidLog : M.mg "InvalidLog" = some (.ref (He.fAd K ("InvalidLog", none))) := He.glo_ok X G (c.fact 0 (f := .glo "InvalidLog") rfl)
  have m_InvalidLife : M.mg "InvalidLife" = some (.ref (He.fAd K ("InvalidLife", none))) := He.glo_ok X G (c.fact 1 (f := .glo "InvalidLife") rfl)
  have m_InvalidTime : M.mg "InvalidTime" = some (.ref (He.fAd K ("InvalidTime", none))) := He.glo_ok X G (c.fact 2 (f := .glo "InvalidTime") rfl)
  have m_InvalidAmount : M.mg "InvalidAmount" = some (.ref (He.fAd K ("InvalidAmount", none))) := He.glo_ok X G (c.fact 3 (f := .glo "InvalidAmount") rfl)
  have m_InvalidIndex : M.mg "InvalidIndex" = some (.ref (He.fAd K ("InvalidIndex", none))) := He.glo_ok X G (c.fact 4 (f := .glo "InvalidIndex") rfl)
  have m_InvalidChoice : M.mg "InvalidChoice" = some (.ref (He.fAd K ("InvalidChoice", none))) := He.glo_ok X G (c.fact 5 (f := .glo "InvalidChoice") rfl)
  have m_InvalidSeen : M.mg "InvalidSeen" = some (.ref (He.fAd K ("InvalidSeen", none))) := He.glo_ok X G (c.fact 6 (f := .glo "InvalidSeen") rfl)
  have m_InvalidNumber : M.mg "InvalidNumber" = some (.ref (He.fAd K ("InvalidNumber", none))) := He.glo_ok X G (c.fact 7 (f := .glo "InvalidNumber") rfl)
  have m_NotEnough : M.mg "NotEnough" = some (.ref (He.fAd K ("NotEnough", none))) := He.glo_ok X G (c.fact 8 (f := .glo "NotEnough") rfl)
  have m_NothingToUndo : M.mg "NothingToUndo" = some (.ref (He.fAd K ("NothingToUndo", none))) := He.glo_ok X G (c.fact 9 (f := .glo "NothingToUndo") rfl)
  have m_Refused : M.mg "Refused" = some (.ref (He.fAd K ("Refused", none))) := He.glo_ok X G (c.fact 10 (f := .glo "Refused") rfl)
  have m_TooMany : M.mg "TooMany" = some (.ref (He.fAd K ("TooMany", none))) := He.glo_ok X G (c.fact 11 (f := .glo "TooMany") rfl)
  have m_PointError : M.mg "PointError" = some (.ref (He.fAd K ("PointError", none))) := He.glo_ok X G (c.fact 12 (f := .glo "PointError") rfl)
  have gX : ∀ n ∈ ("PointError" : Str) :: xNames, M.mg n = some (.ref (He.ga M.K n)) := by
    intro n hn
    simp only [List.mem_cons, List.not_mem_nil, or_false] at hn
    rcases hn with rfl | rfl | rfl | rfl | rfl | rfl | rfl | rfl | rfl | rfl | rfl | rfl | rfl
    · exact m_PointError
    · exact m_InvalidLog
    · exact m_InvalidLife
    · exact m_InvalidTime
    · exact m_InvalidAmount
    · exact m_InvalidIndex
    · exact m_InvalidChoice
    · exact m_InvalidSeen
    · exact m_InvalidNumber
    · exact m_NotEnough
    · exact m_NothingToUndo
    · exact m_Refused
    · exact m_TooMany
  obtain ⟨d__law_name_of, D__law_name_of⟩ := c.def_ 0 (d := dd__law_name_of) rfl
  have m__law_name_of : M.mg "_law_name_of" = some (.ref (He.fAd K ("_law_name_of", none))) := He.glo_ok X G (c.fact 13 (f := .glo "_law_name_of") rfl)
  have F__law_name_of : Fun M.K "_law_name_of" "_law_name_of" (topS 40) _ d__law_name_of := fun_st D__law_name_of
  have B_name : Binds M.K d__law_name_of ["_law_e"] [] := FunD.bindsN D__law_name_of fun _ _ _ _ _ _ us hl => match us, hl with | [_], _ => rfl
  obtain ⟨d__law_try, D__law_try⟩ := c.def_ 1 (d := dd__law_try) rfl
  have m__law_try : M.mg "_law_try" = some (.ref (He.fAd K ("_law_try", none))) := He.glo_ok X G (c.fact 14 (f := .glo "_law_try") rfl)
  have F__law_try : Fun M.K "_law_try" "_law_try" (topS 41) _ d__law_try := fun_st D__law_try
  have B_try : Binds M.K d__law_try ["_law_door"] [] := FunD.bindsN D__law_try fun _ _ _ _ _ _ us hl => match us, hl with | [_], _ => rfl
  have G_try : GDoor M "_law_try" "_law_door" nTry 0 (TTtry M) := gd_try m__law_try F__law_try B_try m__law_name_of F__law_name_of.kp B_name (ok_nameof (k := 0) F__law_name_of (He.free_ok X G (c.fact 15 (f := .free "isinstance") rfl)) (He.free_ok X G (c.fact 16 (f := .free "zip") rfl)) (He.free_ok X G (c.fact 17 (f := .free "ValueError") rfl))) gX (He.free_ok X G (c.fact 18 (f := .free "str") rfl))
  obtain ⟨d_refinit, D_refinit⟩ := c.def_ 2 (d := dd_refinit) rfl
  have F_refinit : Fun M.K "__init__" "Refused.__init__" (clsM (topS 12)) _ d_refinit := fun_st D_refinit
  have B_refinit : Binds M.K d_refinit ["self", "index"] [] := FunD.bindsN D_refinit fun _ _ _ _ _ _ us hl => match us, hl with | [_, _], _ => rfl
  have hR : refOk M.K = true := (He.ba (He.ba (He.ba hex).2).2).1
  have hMn : manOk M.K = true := (He.ba (He.ba (He.ba hex).2).2).2
  have G_refused : GExcO M "Refused" "index" 1 := gexcO_mk (k := 0) hR gX F_refinit B_refinit
  obtain ⟨d_manyinit, D_manyinit⟩ := c.def_ 3 (d := dd_manyinit) rfl
  have F_manyinit : Fun M.K "__init__" "TooMany.__init__" (clsM (topS 13)) _ d_manyinit := fun_st D_manyinit
  have B_manyinit : Binds M.K d_manyinit ["self", "limit"] [] := FunD.bindsN D_manyinit fun _ _ _ _ _ _ us hl => match us, hl with | [_, _], _ => rfl
  have G_toomany : GExcO M "TooMany" "limit" 1 := gexcM_mk (k := 0) hMn gX F_manyinit B_manyinit
  obtain ⟨d_lapse, D_lapse⟩ := c.def_ 4 (d := dd_lapse) rfl
  have m_lapse : M.mg "lapse" = some (.ref (He.fAd K ("lapse", none))) := He.glo_ok X G (c.fact 19 (f := .glo "lapse") rfl)
  have F_lapse : Fun M.K "lapse" "lapse" (topS 24) _ d_lapse := fun_st D_lapse
  have B_lapse : Binds M.K d_lapse ["lots", "lapsed", "life", "time"] [] := FunD.bindsN D_lapse fun _ _ _ _ _ _ us hl => match us, hl with | [_, _, _, _], _ => rfl
  have G_lapse : GFn M "lapse" 1 spLapse := gfn_mk m_lapse F_lapse B_lapse (ok_lapse (k := 0) F_lapse )
  obtain ⟨d_take, D_take⟩ := c.def_ 5 (d := dd_take) rfl
  have m_take : M.mg "take" = some (.ref (He.fAd K ("take", none))) := He.glo_ok X G (c.fact 20 (f := .glo "take") rfl)
  have F_take : Fun M.K "take" "take" (topS 25) _ d_take := fun_st D_take
  have B_take : Binds M.K d_take ["lots", "amount"] [] := FunD.bindsN D_take fun _ _ _ _ _ _ us hl => match us, hl with | [_, _], _ => rfl
  have G_take : GFn M "take" 1 spTake := gfn_mk m_take F_take B_take (ok_take (k := 0) F_take (He.free_ok X G (c.fact 21 (f := .free "min") rfl)))
  obtain ⟨d_play, D_play⟩ := c.def_ 6 (d := dd_play) rfl
  have m_play : M.mg "play" = some (.ref (He.fAd K ("play", none))) := He.glo_ok X G (c.fact 22 (f := .glo "play") rfl)
  have F_play : Fun M.K "play" "play" (topS 26) _ d_play := fun_st D_play
  have B_play : Binds M.K d_play ["log", "life", "until"] [] := FunD.bindsN D_play fun _ _ _ _ _ _ us hl => match us, hl with | [_, _, _], _ => rfl
  have G_play : GFn M "play" 2 spPlay := gfn_mk m_play F_play B_play (ok_play (k := 1) F_play (He.free_ok X G (c.fact 23 (f := .free "enumerate") rfl)) (He.free_ok X G (c.fact 24 (f := .free "sum") rfl)) (He.free_ok X G (c.fact 25 (f := .free "tuple") rfl)) (G_lapse.mono (by decide)) (G_take.mono (by decide)))
  obtain ⟨d_is_from, D_is_from⟩ := c.def_ 7 (d := dd_is_from) rfl
  have m_is_from : M.mg "is_from" = some (.ref (He.fAd K ("is_from", none))) := He.glo_ok X G (c.fact 26 (f := .glo "is_from") rfl)
  have F_is_from : Fun M.K "is_from" "is_from" (topS 20) _ d_is_from := fun_st D_is_from
  have B_is_from : Binds M.K d_is_from ["value", "low", "high"] [] := FunD.bindsN D_is_from fun _ _ _ _ _ _ us hl => match us, hl with | [_, _, _], _ => rfl
  have G_is_from : GFn M "is_from" 1 spIsFrom := gfn_mk m_is_from F_is_from B_is_from (ok_isfrom (k := 0) F_is_from (He.free_ok X G (c.fact 15 (f := .free "isinstance") rfl)) (He.free_ok X G (c.fact 27 (f := .free "int") rfl)) (He.free_ok X G (c.fact 28 (f := .free "bool") rfl)))
  obtain ⟨d_is_event, D_is_event⟩ := c.def_ 8 (d := dd_is_event) rfl
  have m_is_event : M.mg "is_event" = some (.ref (He.fAd K ("is_event", none))) := He.glo_ok X G (c.fact 29 (f := .glo "is_event") rfl)
  have F_is_event : Fun M.K "is_event" "is_event" (topS 21) _ d_is_event := fun_st D_is_event
  have B_is_event : Binds M.K d_is_event ["value"] [] := FunD.bindsN D_is_event fun _ _ _ _ _ _ us hl => match us, hl with | [_], _ => rfl
  have G_is_event : GFn M "is_event" 2 spIsEvent := gfn_mk m_is_event F_is_event B_is_event (ok_isevent (k := 1) F_is_event (He.free_ok X G (c.fact 15 (f := .free "isinstance") rfl)) (He.free_ok X G (c.fact 25 (f := .free "tuple") rfl)) (He.free_ok X G (c.fact 18 (f := .free "str") rfl)) (He.free_ok X G (c.fact 30 (f := .free "len") rfl)) (He.int_ok X G (c.fact 31 (f := .int "LAST_TIME" 10000) rfl)) (He.int_ok X G (c.fact 32 (f := .int "LARGEST" 1000000) rfl)) (G_is_from.mono (by decide)))
  obtain ⟨d_is_log, D_is_log⟩ := c.def_ 9 (d := dd_is_log) rfl
  have m_is_log : M.mg "is_log" = some (.ref (He.fAd K ("is_log", none))) := He.glo_ok X G (c.fact 33 (f := .glo "is_log") rfl)
  have F_is_log : Fun M.K "is_log" "is_log" (topS 22) _ d_is_log := fun_st D_is_log
  have B_is_log : Binds M.K d_is_log ["value"] [] := FunD.bindsN D_is_log fun _ _ _ _ _ _ us hl => match us, hl with | [_], _ => rfl
  have G_is_log_spIsLog : GFn M "is_log" 3 spIsLog := gfn_mk m_is_log F_is_log B_is_log (ok_islog (k := 2) F_is_log (He.free_ok X G (c.fact 15 (f := .free "isinstance") rfl)) (He.free_ok X G (c.fact 25 (f := .free "tuple") rfl)) (He.free_ok X G (c.fact 34 (f := .free "all") rfl)) (He.free_ok X G (c.fact 30 (f := .free "len") rfl)) (He.free_ok X G (c.fact 16 (f := .free "zip") rfl)) (He.int_ok X G (c.fact 35 (f := .int "MOST_EVENTS" 30) rfl)) (G_is_event.mono (by decide)))
  obtain ⟨d_need_log, D_need_log⟩ := c.def_ 10 (d := dd_need_log) rfl
  have m_need_log : M.mg "need_log" = some (.ref (He.fAd K ("need_log", none))) := He.glo_ok X G (c.fact 36 (f := .glo "need_log") rfl)
  have F_need_log : Fun M.K "need_log" "need_log" (topS 23) _ d_need_log := fun_st D_need_log
  have B_need_log : Binds M.K d_need_log ["log"] [] := FunD.bindsN D_need_log fun _ _ _ _ _ _ us hl => match us, hl with | [_], _ => rfl
  have G_need_log_spNeedLog : GFn M "need_log" 4 spNeedLog := gfn_mk m_need_log F_need_log B_need_log (ok_needlog (k := 3) F_need_log (G_is_log_spIsLog.mono (by decide)))
  obtain ⟨d_refused_at, D_refused_at⟩ := c.def_ 11 (d := dd_refused_at) rfl
  have m_refused_at : M.mg "refused_at" = some (.ref (He.fAd K ("refused_at", none))) := He.glo_ok X G (c.fact 37 (f := .glo "refused_at") rfl)
  have F_refused_at : Fun M.K "refused_at" "refused_at" (topS 27) _ d_refused_at := fun_st D_refused_at
  have B_refused_at : Binds M.K d_refused_at ["log", "life"] [] := FunD.bindsN D_refused_at fun _ _ _ _ _ _ us hl => match us, hl with | [_, _], _ => rfl
  have G_refused_at : GFn M "refused_at" 3 spRefusedAt := gfn_mk m_refused_at F_refused_at B_refused_at (ok_refusedat (k := 2) F_refused_at (G_play.mono (by decide)) (He.int_ok X G (c.fact 31 (f := .int "LAST_TIME" 10000) rfl)))
  obtain ⟨d_balance_of, D_balance_of⟩ := c.def_ 12 (d := dd_balance_of) rfl
  have m_balance_of : M.mg "balance_of" = some (.ref (He.fAd K ("balance_of", none))) := He.glo_ok X G (c.fact 38 (f := .glo "balance_of") rfl)
  have F_balance_of : Fun M.K "balance_of" "balance_of" (topS 29) _ d_balance_of := fun_st D_balance_of
  have B_balance_of : Binds M.K d_balance_of ["log", "life", "time"] [] := FunD.bindsN D_balance_of fun _ _ _ _ _ _ us hl => match us, hl with | [_, _, _], _ => rfl
  have G_balance_of : GFn M "balance_of" 3 spThere := gfn_mk m_balance_of F_balance_of B_balance_of (ok_balanceof (k := 2) F_balance_of (He.free_ok X G (c.fact 24 (f := .free "sum") rfl)) (G_play.mono (by decide)))
  obtain ⟨d__law_deck, D__law_deck⟩ := c.def_ 13 (d := dd__law_deck) rfl
  have m__law_deck : M.mg "_law_deck" = some (.ref (He.fAd K ("_law_deck", none))) := He.glo_ok X G (c.fact 39 (f := .glo "_law_deck") rfl)
  have F__law_deck : Fun M.K "_law_deck" "_law_deck" (topS 38) _ d__law_deck := fun_st D__law_deck
  have B__law_deck : Binds M.K d__law_deck ["_law_cell", "_law_turn"] [] := FunD.bindsN D__law_deck fun _ _ _ _ _ _ us hl => match us, hl with | [_, _], _ => rfl
  have G__law_deck : GFn M "_law_deck" 1 spDeck := gfn_mk m__law_deck F__law_deck B__law_deck (ok_deck (k := 0) F__law_deck )
  obtain ⟨d__law_pick, D__law_pick⟩ := c.def_ 14 (d := dd__law_pick) rfl
  have m__law_pick : M.mg "_law_pick" = some (.ref (He.fAd K ("_law_pick", none))) := He.glo_ok X G (c.fact 40 (f := .glo "_law_pick") rfl)
  have F__law_pick : Fun M.K "_law_pick" "_law_pick" (topS 39) _ d__law_pick := fun_st D__law_pick
  have B__law_pick : Binds M.K d__law_pick ["_law_deck_here", "_law_limit"] [] := FunD.bindsN D__law_pick fun _ _ _ _ _ _ us hl => match us, hl with | [_, _], _ => rfl
  have G__law_pick : GFn M "_law_pick" 1 spPick := gfn_mk m__law_pick F__law_pick B__law_pick (ok_pick (k := 0) F__law_pick )
  obtain ⟨d__law_one, D__law_one⟩ := c.def_ 15 (d := dd__law_one) rfl
  have m__law_one : M.mg "_law_one" = some (.ref (He.fAd K ("_law_one", none))) := He.glo_ok X G (c.fact 41 (f := .glo "_law_one") rfl)
  have F__law_one : Fun M.K "_law_one" "_law_one" (topS 42) _ d__law_one := fun_st D__law_one
  have B__law_one : Binds M.K d__law_one ["_law_deck_here", "_law_some"] [] := FunD.bindsN D__law_one fun _ _ _ _ _ _ us hl => match us, hl with | [_, _], _ => rfl
  have G__law_one : GFn M "_law_one" 2 spOne := gfn_mk m__law_one F__law_one B__law_one (ok_one (k := 1) F__law_one (He.free_ok X G (c.fact 30 (f := .free "len") rfl)) (G__law_pick.mono (by decide)))
  obtain ⟨d__law_span, D__law_span⟩ := c.def_ 16 (d := dd__law_span) rfl
  have m__law_span : M.mg "_law_span" = some (.ref (He.fAd K ("_law_span", none))) := He.glo_ok X G (c.fact 42 (f := .glo "_law_span") rfl)
  have F__law_span : Fun M.K "_law_span" "_law_span" (topS 50) _ d__law_span := fun_st D__law_span
  have B__law_span : Binds M.K d__law_span ["_law_deck_here"] [] := FunD.bindsN D__law_span fun _ _ _ _ _ _ us hl => match us, hl with | [_], _ => rfl
  have G__law_span : GFn M "_law_span" 3 spSpan := gfn_mk m__law_span F__law_span B__law_span (ok_span (k := 2) F__law_span (G__law_pick.mono (by decide)) (G__law_one.mono (by decide)))
  obtain ⟨d__law_lots, D__law_lots⟩ := c.def_ 17 (d := dd__law_lots) rfl
  have m__law_lots : M.mg "_law_lots" = some (.ref (He.fAd K ("_law_lots", none))) := He.glo_ok X G (c.fact 43 (f := .glo "_law_lots") rfl)
  have F__law_lots : Fun M.K "_law_lots" "_law_lots" (topS 45) _ d__law_lots := fun_st D__law_lots
  have B__law_lots : Binds M.K d__law_lots ["_law_log", "_law_span_here", "_law_until"] [] := FunD.bindsN D__law_lots fun _ _ _ _ _ _ us hl => match us, hl with | [_, _, _], _ => rfl
  have G__law_lots : GFn M "_law_lots" 1 spLots := gfn_mk m__law_lots F__law_lots B__law_lots (ok_lots (k := 0) F__law_lots (He.free_ok X G (c.fact 23 (f := .free "enumerate") rfl)) (He.free_ok X G (c.fact 24 (f := .free "sum") rfl)) (He.free_ok X G (c.fact 21 (f := .free "min") rfl)))
  obtain ⟨d__law_there, D__law_there⟩ := c.def_ 18 (d := dd__law_there) rfl
  have m__law_there : M.mg "_law_there" = some (.ref (He.fAd K ("_law_there", none))) := He.glo_ok X G (c.fact 44 (f := .glo "_law_there") rfl)
  have F__law_there : Fun M.K "_law_there" "_law_there" (topS 46) _ d__law_there := fun_st D__law_there
  have B__law_there : Binds M.K d__law_there ["_law_log", "_law_span_here", "_law_moment"] [] := FunD.bindsN D__law_there fun _ _ _ _ _ _ us hl => match us, hl with | [_, _, _], _ => rfl
  have G__law_there : GFn M "_law_there" 2 spThereK := gfn_mk m__law_there F__law_there B__law_there (ok_thereK (k := 1) F__law_there (He.free_ok X G (c.fact 24 (f := .free "sum") rfl)) (G__law_lots.mono (by decide)))
  obtain ⟨d__law_gone, D__law_gone⟩ := c.def_ 19 (d := dd__law_gone) rfl
  have m__law_gone : M.mg "_law_gone" = some (.ref (He.fAd K ("_law_gone", none))) := He.glo_ok X G (c.fact 45 (f := .glo "_law_gone") rfl)
  have F__law_gone : Fun M.K "_law_gone" "_law_gone" (topS 47) _ d__law_gone := fun_st D__law_gone
  have B__law_gone : Binds M.K d__law_gone ["_law_log", "_law_span_here", "_law_moment"] [] := FunD.bindsN D__law_gone fun _ _ _ _ _ _ us hl => match us, hl with | [_, _, _], _ => rfl
  have G__law_gone : GFn M "_law_gone" 2 spGoneK := gfn_mk m__law_gone F__law_gone B__law_gone (ok_goneK (k := 1) F__law_gone (He.free_ok X G (c.fact 24 (f := .free "sum") rfl)) (G__law_lots.mono (by decide)))
  obtain ⟨d__law_moments, D__law_moments⟩ := c.def_ 20 (d := dd__law_moments) rfl
  have m__law_moments : M.mg "_law_moments" = some (.ref (He.fAd K ("_law_moments", none))) := He.glo_ok X G (c.fact 46 (f := .glo "_law_moments") rfl)
  have F__law_moments : Fun M.K "_law_moments" "_law_moments" (topS 51) _ d__law_moments := fun_st D__law_moments
  have B__law_moments : Binds M.K d__law_moments ["_law_deck_here", "_law_log", "_law_span_here"] [] := FunD.bindsN D__law_moments fun _ _ _ _ _ _ us hl => match us, hl with | [_, _, _], _ => rfl
  have G__law_moments_spMoments : GFn M "_law_moments" 2 spMoments := gfn_mk m__law_moments F__law_moments B__law_moments (ok_moments (k := 1) F__law_moments (He.free_ok X G (c.fact 47 (f := .free "max") rfl)) (G__law_pick.mono (by decide)))
  obtain ⟨d__law_events, D__law_events⟩ := c.def_ 21 (d := dd__law_events) rfl
  have m__law_events : M.mg "_law_events" = some (.ref (He.fAd K ("_law_events", none))) := He.glo_ok X G (c.fact 48 (f := .glo "_law_events") rfl)
  have F__law_events : Fun M.K "_law_events" "_law_events" (topS 49) _ d__law_events := fun_st D__law_events
  have B__law_events : Binds M.K d__law_events ["_law_deck_here", "_law_span_here", "_law_many"] [] := FunD.bindsN D__law_events fun _ _ _ _ _ _ us hl => match us, hl with | [_, _, _], _ => rfl
  have G__law_events : GFn M "_law_events" 3 spEvents := gfn_mk m__law_events F__law_events B__law_events (ok_events (k := 2) F__law_events (He.free_ok X G (c.fact 49 (f := .free "range") rfl)) (He.free_ok X G (c.fact 21 (f := .free "min") rfl)) (G__law_pick.mono (by decide)) (G__law_one.mono (by decide)) (G__law_there.mono (by decide)))
  obtain ⟨d__law_sort, D__law_sort⟩ := c.def_ 22 (d := dd__law_sort) rfl
  have m__law_sort : M.mg "_law_sort" = some (.ref (He.fAd K ("_law_sort", none))) := He.glo_ok X G (c.fact 50 (f := .glo "_law_sort") rfl)
  have F__law_sort : Fun M.K "_law_sort" "_law_sort" (topS 43) _ d__law_sort := fun_st D__law_sort
  have B__law_sort : Binds M.K d__law_sort ["_law_thing"] [] := FunD.bindsN D__law_sort fun _ _ _ _ _ _ us hl => match us, hl with | [_], _ => rfl
  have G__law_sort : GFn M "_law_sort" 1 spSort := gfn_mk m__law_sort F__law_sort B__law_sort (ok_sort (k := 0) F__law_sort (He.free_ok X G (c.fact 15 (f := .free "isinstance") rfl)) (He.free_ok X G (c.fact 28 (f := .free "bool") rfl)) (He.free_ok X G (c.fact 27 (f := .free "int") rfl)) (He.free_ok X G (c.fact 18 (f := .free "str") rfl)) (He.free_ok X G (c.fact 51 (f := .free "list") rfl)) (He.free_ok X G (c.fact 25 (f := .free "tuple") rfl)))
  obtain ⟨d__law_same, D__law_same⟩ := c.def_ 23 (d := dd__law_same) rfl
  have m__law_same : M.mg "_law_same" = some (.ref (He.fAd K ("_law_same", none))) := He.glo_ok X G (c.fact 52 (f := .glo "_law_same") rfl)
  have F__law_same : Fun M.K "_law_same" "_law_same" (topS 44) _ d__law_same := fun_st D__law_same
  have B__law_same : Binds M.K d__law_same ["_law_told", "_law_due"] [] := FunD.bindsN D__law_same fun _ _ _ _ _ _ us hl => match us, hl with | [_, _], _ => rfl
  have G__law_same_spSameS : GFn M "_law_same" 2 spSameS := gfn_mk m__law_same F__law_same B__law_same (ok_sameS (k := 1) F__law_same (G__law_sort.mono (by decide)))
  obtain ⟨d_first_of, D_first_of⟩ := c.def_ 24 (d := dd_first_of) rfl
  have m_first_of : M.mg "first_of" = some (.ref (He.fAd K ("first_of", none))) := He.glo_ok X G (c.fact 53 (f := .glo "first_of") rfl)
  have F_first_of : Fun M.K "first_of" "first_of" (topS 34) _ d_first_of := fun_st D_first_of
  have B_first_of : Binds M.K d_first_of ["low", "high", "test"] [] := FunD.bindsN D_first_of fun _ _ _ _ _ _ us hl => match us, hl with | [_, _, _], _ => rfl
  have G_first_of : GFn M "first_of" 18 (spFirst M) := gfn_mk m_first_of F_first_of B_first_of (ok_first (k := 17) F_first_of (by decide))
  obtain ⟨d_best_range, D_best_range⟩ := c.def_ 25 (d := dd_best_range) rfl
  have m_best_range : M.mg "best_range" = some (.ref (He.fAd K ("best_range", none))) := He.glo_ok X G (c.fact 54 (f := .glo "best_range") rfl)
  have F_best_range : Fun M.K "best_range" "best_range" (topS 35) _ d_best_range := fun_st D_best_range
  have B_best_range : Binds M.K d_best_range ["covered", "there", "seen", "most"] [] := FunD.bindsN D_best_range fun _ _ _ _ _ _ us hl => match us, hl with | [_, _, _, _], _ => rfl
  have G_best_range : GFn M "best_range" 19 (spBest M (He.cT K ("best_range", none)).2) := gfn_mk m_best_range F_best_range B_best_range (ok_best (k := 18) F_best_range (G_first_of.mono (by decide)) (code_of (p := ("best_range", none)) D_best_range) (hTB ("best_range", none) (List.mem_cons_of_mem _ List.mem_cons_self)))
  have G_is_log_spIsLogN : GFn M "is_log" 1 spIsLogN := gfn_mk m_is_log F_is_log B_is_log (ok_islogn (k := 0) F_is_log (He.free_ok X G (c.fact 15 (f := .free "isinstance") rfl)) (He.free_ok X G (c.fact 25 (f := .free "tuple") rfl)))
  have G_need_log_spNeedLogX : GFn M "need_log" 2 (spNeedLogX M) := gfn_mk m_need_log F_need_log B_need_log (ok_needlogx (k := 1) F_need_log (G_is_log_spIsLogN.mono (by decide)) (gexc_mk m_InvalidLog (c.fact 55 (f := .exc "InvalidLog") rfl)))
  obtain ⟨d_need_seen, D_need_seen⟩ := c.def_ 26 (d := dd_need_seen) rfl
  have m_need_seen : M.mg "need_seen" = some (.ref (He.fAd K ("need_seen", none))) := He.glo_ok X G (c.fact 56 (f := .glo "need_seen") rfl)
  have F_need_seen : Fun M.K "need_seen" "need_seen" (topS 33) _ d_need_seen := fun_st D_need_seen
  have B_need_seen : Binds M.K d_need_seen ["seen"] [] := FunD.bindsN D_need_seen fun _ _ _ _ _ _ us hl => match us, hl with | [_], _ => rfl
  have G_need_seen_spNeedSeen : GFn M "need_seen" 2 spNeedSeen := gfn_mk m_need_seen F_need_seen B_need_seen (ok_needseen (k := 1) F_need_seen (He.free_ok X G (c.fact 15 (f := .free "isinstance") rfl)) (He.free_ok X G (c.fact 25 (f := .free "tuple") rfl)) (He.free_ok X G (c.fact 30 (f := .free "len") rfl)) (He.int_ok X G (c.fact 57 (f := .int "MOST_SEEN" 10) rfl)) (He.int_ok X G (c.fact 58 (f := .int "LAST_MOMENT" 12000) rfl)) (He.int_ok X G (c.fact 59 (f := .int "MOST_BALANCE" 1000000000) rfl)) (G_is_from.mono (by decide)))
  have G_need_seen_spNeedSeenX : GFn M "need_seen" 2 (spNeedSeenX M) := gfn_mk m_need_seen F_need_seen B_need_seen (ok_needseenx (k := 1) F_need_seen (He.free_ok X G (c.fact 15 (f := .free "isinstance") rfl)) (He.free_ok X G (c.fact 25 (f := .free "tuple") rfl)) (He.free_ok X G (c.fact 30 (f := .free "len") rfl)) (He.int_ok X G (c.fact 57 (f := .int "MOST_SEEN" 10) rfl)) (He.int_ok X G (c.fact 58 (f := .int "LAST_MOMENT" 12000) rfl)) (He.int_ok X G (c.fact 59 (f := .int "MOST_BALANCE" 1000000000) rfl)) (G_is_from.mono (by decide)) (gexc_mk m_InvalidSeen (c.fact 60 (f := .exc "InvalidSeen") rfl)))
  obtain ⟨d_fit_life, D_fit_life⟩ := c.def_ 27 (d := dd_fit_life) rfl
  have m_fit_life : M.mg "fit_life" = some (.ref (He.fAd K ("fit_life", none))) := He.glo_ok X G (c.fact 61 (f := .glo "fit_life") rfl)
  have F_fit_life : Fun M.K "fit_life" "fit_life" (topS 36) _ d_fit_life := fun_st D_fit_life
  have B_fit_life : Binds M.K d_fit_life ["log", "seen"] [] := FunD.bindsN D_fit_life fun _ _ _ _ _ _ us hl => match us, hl with | [_, _], _ => rfl
  have G_fit_life_spFit : GFn M "fit_life" 20 (spFit (He.cT K ("fit_life", none)).2 (He.cT K ("best_range", none)).2) := gfn_mk m_fit_life F_fit_life B_fit_life (ok_fit (k := 19) F_fit_life (He.int_ok X G (c.fact 62 (f := .int "LONGEST_LIFE" 1000) rfl)) (G_need_log_spNeedLog.mono (by decide)) (G_need_seen_spNeedSeen.mono (by decide)) (G_refused_at.mono (by decide)) (G_balance_of.mono (by decide)) (G_best_range.mono (by decide)) (code_of (p := ("fit_life", none)) D_fit_life) (hTB ("fit_life", none) (List.mem_cons_of_mem _ (List.mem_cons_of_mem _ List.mem_cons_self))))
  have G_fit_life_spFitL : GFn M "fit_life" 3 (spFitL M) := gfn_mk m_fit_life F_fit_life B_fit_life (ok_fitl (k := 2) F_fit_life (G_need_log_spNeedLogX.mono (by decide)))
  have G_fit_life_spFitS : GFn M "fit_life" 5 (spFitS M) := gfn_mk m_fit_life F_fit_life B_fit_life (ok_fitseen (k := 4) F_fit_life (G_need_log_spNeedLog.mono (by decide)) (G_need_seen_spNeedSeenX.mono (by decide)))
  have G__law_moments_spMomN : GFn M "_law_moments" 2 spMomN := gfn_mk m__law_moments F__law_moments B__law_moments (ok_momn (k := 1) F__law_moments (He.free_ok X G (c.fact 47 (f := .free "max") rfl)) (G__law_pick.mono (by decide)))
  have G__law_same_spSameI : GFn M "_law_same" 3 spSameI := gfn_mk m__law_same F__law_same B__law_same (ok_sameI (k := 2) F__law_same (He.free_ok X G (c.fact 23 (f := .free "enumerate") rfl)) (He.free_ok X G (c.fact 30 (f := .free "len") rfl)) (G__law_sort.mono (by decide)) (G__law_same_spSameS.mono (by decide)))
  obtain ⟨d__law_explains, D__law_explains⟩ := c.def_ 28 (d := dd__law_explains) rfl
  have m__law_explains : M.mg "_law_explains" = some (.ref (He.fAd K ("_law_explains", none))) := He.glo_ok X G (c.fact 63 (f := .glo "_law_explains") rfl)
  have F__law_explains : Fun M.K "_law_explains" "_law_explains" (topS 52) _ d__law_explains := fun_st D__law_explains
  have B__law_explains : Binds M.K d__law_explains ["_law_log", "_law_span_here", "_law_seen"] [] := FunD.bindsN D__law_explains fun _ _ _ _ _ _ us hl => match us, hl with | [_, _, _], _ => rfl
  have G__law_explains : GFn M "_law_explains" 3 spExpl := gfn_mk m__law_explains F__law_explains B__law_explains (ok_expl (k := 2) F__law_explains (G__law_lots.mono (by decide)) (G__law_there.mono (by decide)))
  have F_law : Fun M.K "law" "law" (topS 53) _ d_law := fun_st D_law
  exact (ok_law (k := 20) F_law (He.free_ok X G (c.fact 49 (f := .free "range") rfl)) (He.free_ok X G (c.fact 51 (f := .free "list") rfl)) (He.free_ok X G (c.fact 25 (f := .free "tuple") rfl)) (He.free_ok X G (c.fact 47 (f := .free "max") rfl)) (He.free_ok X G (c.fact 21 (f := .free "min") rfl)) (He.free_ok X G (c.fact 27 (f := .free "int") rfl)) (G__law_deck.mono (by decide)) (G__law_pick.mono (by decide)) (G__law_events.mono (by decide)) (G__law_one.mono (by decide)) (G__law_moments_spMomN.mono (by decide)) (G__law_there.mono (by decide)) (G__law_explains.mono (by decide)) (G__law_same_spSameS.mono (by decide)) (G__law_same_spSameI.mono (by decide)) (G_fit_life_spFit.mono (by decide)) (G_fit_life_spFitL.mono (by decide)) (G_fit_life_spFitS.mono (by decide)) (G_try.mono (by decide)) (code_of (p := ("law", none)) D_law) (hTB ("law", none) List.mem_cons_self) (tells_mk (List.all_eq_true.mp (He.ba hex).1 "InvalidSeen" (by decide)) gX (by decide) (by decide +kernel) (by decide +kernel)) (tells_mk (List.all_eq_true.mp (He.ba hex).1 "InvalidLog" (by decide)) gX (by decide) (by decide +kernel) (by decide +kernel)))
end G42
open PySem PySem.W PySem.Calls PyProof.Rows
theorem PySem.Challenge.cw_lapsepoints_k12_whole_lives_told_back_holds : PySem.Challenge.rw_lapsepoints_k12_whole_lives_told_back.Holds := by
  w_on; o_law
  refine HandSHeadRun.head_any (r := G42.hdR) (q := view G42.hdR.prog [53]) (H := G42.hdK) (ob := G42.hdOb) (M := 20000) (loose := G42.hdNo) (d := HandSHeadRun.topDef G42.hdR.prog 53) (kwd := []) G42.hdOb_eq
    (by kernel_rfl) (fun s => by kernel_rfl) G42.hdRun (by kernel_rfl) (by kernel_rfl) (by kernel_rfl) (by rfl) (by first | assumption | decide +kernel) (by decide +kernel) ⟨rfl, rfl, rfl, rfl, rfl, by decide +kernel⟩ ?hw ?hc
  case hw => w_witness2
  case hc =>
    refine LamX.walk_ofTsE (l := PySem.Challenge.rw_lapsepoints_k12_whole_lives_told_back) (n := 63) (k := 23) (x := "_law_script") (CX := fun w => L2N.CX (PySem.Challenge.rw_lapsepoints_k12_whole_lives_told_back).prog w) rfl (by decide) (by kernel_rfl) ⟨rfl, by decide, by decide⟩ ?F (fun _ _ _ _ _ ⟨_, _, _, _, _, _, _, _, _, _, _, _, z⟩ => z)
    intro w mg fa h Y G hmg0
    obtain ⟨K, KX, c⟩ := Y
    have hmg : mg ("law" : PySem.Str) = some (.ref fa) := by
      have e : (HandSHeadRun.topDef G42.hdR.prog 53).name = ("law" : PySem.Str) := by kernel_rfl
      rw [← e]
      exact hmg0
    obtain ⟨fd, hb, hF⟩ := G42.hdFacts (P := (PySem.Challenge.rw_lapsepoints_k12_whole_lives_told_back).prog) (w := w) KX G hmg c.t.d c.more
    exact ⟨K, KX, fd, G42.hdTf.map (He.cT K), Dl.liftSp K (G42.spLawT (He.cT K ("law", none)).2 (He.cT K ("best_range", none)).2 (He.cT K ("fit_life", none)).2), fun p hp => (by obtain ⟨q, hq, rfl⟩ := List.mem_map.mp hp; exact c.empty q hq), fun p hp => (by obtain ⟨q, hq, rfl⟩ := List.mem_map.mp hp; exact c.out q hq), fun p hp => (by obtain ⟨q, hq, rfl⟩ := List.mem_map.mp hp; exact codeHd_of_K KX (c.hd q hq)), hb,
      fun H a ns hl hbits hT hS => G42.law_dataT [((He.cT K ("law", none)).2, G42.qLam), ((He.cT K ("best_range", none)).2, G42.qBest), ((He.cT K ("fit_life", none)).2, G42.qFit)] (fun p hp => by
        simp only [List.mem_cons, List.not_mem_nil, or_false] at hp
        rcases hp with rfl | rfl | rfl
        all_goals exact hT (He.cT K (_, none)) (List.mem_map_of_mem (by first | exact List.mem_cons_self | exact List.mem_cons_of_mem _ List.mem_cons_self | exact List.mem_cons_of_mem _ (List.mem_cons_of_mem _ List.mem_cons_self) | exact List.mem_cons_of_mem _ (List.mem_cons_of_mem _ (List.mem_cons_of_mem _ List.mem_cons_self)) | exact List.mem_cons_of_mem _ (List.mem_cons_of_mem _ (List.mem_cons_of_mem _ (List.mem_cons_of_mem _ List.mem_cons_self))) | exact List.mem_cons_of_mem _ (List.mem_cons_of_mem _ (List.mem_cons_of_mem _ (List.mem_cons_of_mem _ (List.mem_cons_of_mem _ List.mem_cons_self))))))) (of_decide_eq_true (He.ba (He.ba c.more).2).1) hS (G42.law_askT ns hl hbits), fun base h1 h2 h3 => hF base h1 h2 fun p hp => h3 _ (List.mem_map_of_mem hp)⟩
