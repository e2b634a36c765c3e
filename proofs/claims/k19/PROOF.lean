import PyProof.Rows.All
import Wide.All
import OpenK.AllK
import Wide.FinOn
import HandS.ForMost
import HandS.ForExc
import HandS.Lambda
import KE.KLam
import HandS.ExcValue
import HandS.ExcInit
import HandS.TupAny
import HandS.Style
import HandS.Walk
import HandS.Zip
import HandS.CallSlots
import HandS.ExcOwn
import HandS.WordsExc
import HandS.Defaults
import HandS.ExcCtx
import KE.GoesMore
import KE.GoesEnum
import HandS.IsInst
import HandS.SetFor
import HandS.Strs
import HandS.ListItems
import HandS.SortRule
import HandS.DictTup
import HandS.HotCalls
import HandS.SuiteRaise
import HandS.ExcIs
import HandS.Text
import HandS.HeadHook2
import HandS.Iter
import HandS.ExcField
import HandS.Conv
import HandS.More
import HandS.Small
import KE.GoesZip
import HandS.GenList
import PyProof.ForAppend
import PyProof.Walks
import PyProof.GenComp
import HandS.NoneIn
import HandS.Star
import HandS.TupMul
import HandS.ClsMeth
import HandS.NamedTupGet
import KE.KStateDown
import HandS.Ends
import HandS.Head0
import HandS.Head1
import HandS.Head2
import HandS.HeadEnd
import HandS.HeadWalk
import HandS.HeadHook1
import PySem.Challenge.RW_lapsepoints_k19_whole_edges
import HandS.HeadHook3
import HandS.HeadHook4
import HandS.HeadNt
set_option Elab.async false
set_option linter.all false
set_option maxRecDepth 100000
set_option maxHeartbeats 2000000
namespace Dl
open PySem PySem.Spec PyProof.Rows L2
inductive D where
  | non | bl (b : Bool) | int (i : Int) | str (x : Str) | ty (n : String) | obj (a : Addr) | tup (xs : List D) | lst (xs : List D)
mutual
inductive Rep (K : PySem.W.Frag) (F : Hp) : V → D → Prop
  | non : Rep K F .non .non
  | bl (b : Bool) : Rep K F (.bl b) (.bl b)
  | int (i : Int) : Rep K F (.int i) (.int i)
  | str (x : Str) : Rep K F (.str x) (.str x)
  | ty (n : String) : Rep K F (.ty n) (.ty n)
  | obj (a : Addr) : Rep K F (.ref a) (.obj a)
  | tup {a : Addr} {vs : List V} {ds : List D} : SqT K F a vs → Reps K F vs ds → Rep K F (.ref a) (.tup ds)
  | lst {a : Addr} {vs : List V} {ds : List D} : SqL K F a vs → Reps K F vs ds → Rep K F (.ref a) (.lst ds)
inductive Reps (K : PySem.W.Frag) (F : Hp) : List V → List D → Prop
  | nil : Reps K F [] []
  | cons {v : V} {d : D} {vs : List V} {ds : List D} : Rep K F v d → Reps K F vs ds → Reps K F (v :: vs) (d :: ds)
end
theorem sqL_mono {K : PySem.W.Frag} {F F' : Hp} {a : Addr} {xs : List V} (e : Same F F') (h : SqL K F a xs) : SqL K F' a xs := e.seq h
theorem sqT_mono {K : PySem.W.Frag} {F F' : Hp} {a : Addr} {xs : List V} (e : Same F F') (h : SqT K F a xs) : SqT K F' a xs := by
  rcases h with (h | ⟨o, h⟩) | h
  · exact .inl (.inl (e _ _ h))
  · exact .inl (.inr ⟨o, e _ _ h⟩)
  · exact .inr h
mutual
theorem Rep.mono {K : PySem.W.Frag} {F F' : Hp} (e : Same F F') : ∀ {v : V} {d : D}, Rep K F v d → Rep K F' v d
  | _, _, .non => .non
  | _, _, .bl b => .bl b
  | _, _, .int i => .int i
  | _, _, .str x => .str x
  | _, _, .ty n => .ty n
  | _, _, .obj a => .obj a
  | _, _, .tup h r => .tup (sqT_mono e h) (Reps.mono e r)
  | _, _, .lst h r => .lst (sqL_mono e h) (Reps.mono e r)
theorem Reps.mono {K : PySem.W.Frag} {F F' : Hp} (e : Same F F') : ∀ {vs : List V} {ds : List D}, Reps K F vs ds → Reps K F' vs ds
  | _, _, .nil => .nil
  | _, _, .cons h r => .cons (Rep.mono e h) (Reps.mono e r)
end
section
variable {K : PySem.W.Frag} {F : Hp}
theorem Reps.length : ∀ {vs : List V} {ds : List D}, Reps K F vs ds → vs.length = ds.length
  | _, _, .nil => rfl
  | _, _, .cons _ r => by rw [List.length_cons, List.length_cons, Reps.length r]
theorem Reps.get : ∀ {vs : List V} {ds : List D} {i : Nat} {d : D}, Reps K F vs ds → ds[i]? = some d → ∃ v, vs[i]? = some v ∧ Rep K F v d
  | _, _, _, _, .nil, e => by simp at e
  | _, _, 0, _, .cons r _, e => by simp at e; subst e; exact ⟨_, rfl, r⟩
  | _, _, i + 1, d, .cons _ t, e => by
    obtain ⟨v, h1, h2⟩ := Reps.get (i := i) (d := d) t (by simpa using e)
    exact ⟨v, by simpa using h1, h2⟩
theorem Reps.get' : ∀ {vs : List V} {ds : List D} {i : Nat} {v : V}, Reps K F vs ds → vs[i]? = some v → ∃ d, ds[i]? = some d ∧ Rep K F v d
  | _, _, _, _, .nil, e => by simp at e
  | _, _, 0, _, .cons r _, e => by simp at e; subst e; exact ⟨_, rfl, r⟩
  | _, _, i + 1, v, .cons _ t, e => by
    obtain ⟨d, h1, h2⟩ := Reps.get' (i := i) (v := v) t (by simpa using e)
    exact ⟨d, by simpa using h1, h2⟩
theorem Reps.append : ∀ {vs ws : List V} {ds es : List D}, Reps K F vs ds → Reps K F ws es → Reps K F (vs ++ ws) (ds ++ es)
  | _, _, _, _, .nil, s => s
  | _, _, _, _, .cons r t, s => .cons r (Reps.append t s)
theorem Reps.set {v : V} {d : D} (r : Rep K F v d) : ∀ {vs : List V} {ds : List D} (i : Nat), Reps K F vs ds → Reps K F (vs.set i v) (ds.set i d)
  | _, _, _, .nil => .nil
  | _, _, 0, .cons _ t => .cons r t
  | _, _, i + 1, .cons q t => .cons q (Reps.set r i t)
theorem Reps.take : ∀ {vs : List V} {ds : List D} (n : Nat), Reps K F vs ds → Reps K F (vs.take n) (ds.take n)
  | _, _, 0, _ => .nil
  | _, _, _ + 1, .nil => .nil
  | _, _, n + 1, .cons r t => .cons r (Reps.take n t)
theorem Reps.drop : ∀ {vs : List V} {ds : List D} (n : Nat), Reps K F vs ds → Reps K F (vs.drop n) (ds.drop n)
  | _, _, 0, r => r
  | _, _, _ + 1, .nil => .nil
  | _, _, n + 1, .cons _ t => Reps.drop n t
theorem Reps.eraseIdx : ∀ {vs : List V} {ds : List D} (n : Nat), Reps K F vs ds → Reps K F (vs.eraseIdx n) (ds.eraseIdx n)
  | _, _, _, .nil => .nil
  | _, _, 0, .cons _ t => t
  | _, _, n + 1, .cons r t => .cons r (Reps.eraseIdx n t)
theorem Reps.dropLast {vs : List V} {ds : List D} (h : Reps K F vs ds) : Reps K F vs.dropLast ds.dropLast := by
  rw [List.dropLast_eq_take, List.dropLast_eq_take, h.length]
  exact h.take _
theorem Reps.reverse : ∀ {vs : List V} {ds : List D}, Reps K F vs ds → Reps K F vs.reverse ds.reverse
  | _, _, .nil => .nil
  | _, _, .cons r t => by
    rw [List.reverse_cons, List.reverse_cons]
    exact (Reps.reverse t).append (.cons r .nil)
theorem reps_ints : ∀ {ns : List Int} {vs : List V}, Reps K F vs (ns.map D.int) → vs = ns.map V.int
  | [], _, .nil => rfl
  | n :: ns, _, .cons (.int _) t => by rw [List.map_cons, reps_ints t]
theorem ints_reps : ∀ (ns : List Int), Reps K F (ns.map V.int) (ns.map D.int)
  | [] => .nil
  | n :: ns => .cons (.int n) (ints_reps ns)
theorem reps_bls : ∀ {ns : List Bool} {vs : List V}, Reps K F vs (ns.map D.bl) → vs = ns.map V.bl
  | [], _, .nil => rfl
  | n :: ns, _, .cons (.bl _) t => by rw [List.map_cons, reps_bls t]
theorem reps_strs : ∀ {ns : List Str} {vs : List V}, Reps K F vs (ns.map D.str) → vs = ns.map V.str
  | [], _, .nil => rfl
  | n :: ns, _, .cons (.str _) t => by rw [List.map_cons, reps_strs t]
end
/-- the table at P: the codes in it are frozen in F, of the name q -/
def TabF (F H : Hp) (P : Addr) (q : Str) : Prop := ∃ ps : Array Value, H P = some (.tbl ps) ∧ TriplesOk ps.toList ∧ ∀ (pos : Pos) (cv : Value), codeAmong pos ps.toList = some cv → ∃ c, cv = .ref c ∧ F c = some (LamX.CodeO c q)
theorem TabF.mono {F F' H H' : Hp} {P : Addr} {q : Str} (h : TabF F H P q) (e : Same F F') (k : H' P = H P) : TabF F' H' P q := by
  obtain ⟨ps, h1, h2, h3⟩ := h
  refine ⟨ps, k.trans h1, h2, fun pos cv z => ?_⟩
  obtain ⟨c, e1, e2⟩ := h3 pos cv z
  exact ⟨c, e1, e _ _ e2⟩
/-- a lambda without captured names: its words -/
structure LamW where
  params : Arguments
  body : Expr
  scope : Scope
  q : Str
/-- the object at f is this lambda, c its code object -/
def LamO (f : Addr) (L : LamW) (c : Addr) : HO := .ext fun h => ∃ pm ctv : Value, h.get? f = some (PySem.W.kla_obj "<lambda>" L.q L.params L.body L.scope [] pm c ctv)
/-- .. with a closure -/
def LamOC (f : Addr) (L : LamW) (cl : List (Str × Addr)) (c : Addr) : HO := .ext fun h => ∃ pm ctv : Value, h.get? f = some (PySem.W.kla_obj "<lambda>" L.q L.params L.body L.scope cl pm c ctv)
/-- the object at c is this cell -/
def CelO (c : Addr) (o : Obj) : HO := .ext fun h => h.get? c = some o
/-- what is owned (frd: a dict of ints that is locked, being walked; cel: a cell that is lent) -/
inductive OV where
  | ex (C : Addr) (dx : Option Addr) (fs : List (Str × D))
  | cel (o : Obj) (d : D)
  | lamc (L : LamW) (cl : List (Str × Addr))
  | frd (od : Obj) (tb : List (Int × Int))
  | lam (L : LamW)
  | tab (q : Str)
  | lst (ds : List D)
  | dic (kvs : List (Key × D))
  | ins (C dx : Addr) (fs : List (Str × D))
abbrev Own := List (Addr × OV)
def PReps {κ : Type} (K : PySem.W.Frag) (F : Hp) : List (κ × V) → List (κ × D) → Prop := Paired fun p q => p.1 = q.1 ∧ Rep K F p.2 q.2
theorem PReps.mono {κ : Type} {K : PySem.W.Frag} {F F' : Hp} (e : Same F F') {a : List (κ × V)} {b : List (κ × D)} (h : PReps K F a b) : PReps K F' a b := Paired.mapP h fun _ _ q => ⟨q.1, q.2.mono e⟩
/-- an exception object that was made: its class, its dict that will not change -/
def ExRep (K : PySem.W.Frag) (F H : Hp) (a C : Addr) (fs : List (Str × D)) : Option Addr → Prop
  | none => fs = [] ∧ H a = some (ExO (.ref C) a)
  | some d => H a = some (exo a C (some d)) ∧ ∃ gs, F d = some (exd d gs) ∧ PReps K F gs fs
theorem ExRep.mono {K : PySem.W.Frag} {F F' H H' : Hp} {a C : Addr} {fs : List (Str × D)} {dx : Option Addr} (h : ExRep K F H a C fs dx) (e : Same F F') (k : H' a = H a) : ExRep K F' H' a C fs dx := by
  cases dx with
  | none => exact ⟨h.1, k.trans h.2⟩
  | some d => obtain ⟨h1, gs, h2, h3⟩ := h; exact ⟨k.trans h1, gs, e _ _ h2, h3.mono e⟩
theorem ExRep.there {K : PySem.W.Frag} {F H : Hp} {a C : Addr} {fs : List (Str × D)} {dx : Option Addr} (h : ExRep K F H a C fs dx) : ∃ o, H a = some o := by
  cases dx with
  | none => exact ⟨_, h.2⟩
  | some d => exact ⟨_, h.1⟩
def ORep (K : PySem.W.Frag) (F H : Hp) (a : Addr) : OV → Prop
  | .ex C dx fs => ExRep K F H a C fs dx
  | .cel o d => H a = some (CelO a o) ∧ ∃ (u : Value) (v : V), o.data = .cell (some u) ∧ RelV v u ∧ Rep K F v d
  | .lamc L cl => ∃ c, H a = some (LamOC a L cl c) ∧ F c = some (LamX.CodeO c L.q)
  | .frd od tb => H a = some (.frz od (.dK (tb.map fun q => ((Sum.inl q.1 : Key), V.int q.2))))
  | .lam L => ∃ c, H a = some (LamO a L c) ∧ F c = some (LamX.CodeO c L.q)
  | .tab q => TabF F H a q
  | .lst ds => ∃ vs, H a = some (.lst vs) ∧ Reps K F vs ds
  | .dic kvs => ∃ ks, H a = some (.dK ks) ∧ PReps K F ks kvs
  | .ins C dx fs => ∃ gs, H a = some (.ins C dx gs) ∧ PReps K F gs fs
theorem ORep.there {K : PySem.W.Frag} {F H : Hp} {a : Addr} {ov : OV} (h : ORep K F H a ov) : ∃ o, H a = some o := by
  cases ov with
  | ex C dx fs => exact ExRep.there h
  | cel o d => exact ⟨_, h.1⟩
  | lamc L cl => obtain ⟨_, h, _⟩ := h; exact ⟨_, h⟩
  | frd od tb => exact ⟨_, h⟩
  | lam L => obtain ⟨_, h, _⟩ := h; exact ⟨_, h⟩
  | tab q => obtain ⟨_, h, _⟩ := h; exact ⟨_, h⟩
  | lst ds => obtain ⟨_, h, _⟩ := h; exact ⟨_, h⟩
  | dic ds => obtain ⟨_, h, _⟩ := h; exact ⟨_, h⟩
  | ins C dx fs => obtain ⟨_, h, _⟩ := h; exact ⟨_, h⟩
theorem ORep.mono {K : PySem.W.Frag} {F F' H H' : Hp} {a : Addr} {ov : OV} (h : ORep K F H a ov) (e : Same F F') (k : H' a = H a) : ORep K F' H' a ov := by
  cases ov with
  | ex C dx fs => exact ExRep.mono h e k
  | cel o d => obtain ⟨h1, u, v, h2, h3, h4⟩ := h; exact ⟨k.trans h1, u, v, h2, h3, h4.mono e⟩
  | lamc L cl => obtain ⟨c, h1, h2⟩ := h; exact ⟨c, k.trans h1, e _ _ h2⟩
  | frd od tb => exact k.trans h
  | lam L => obtain ⟨c, h1, h2⟩ := h; exact ⟨c, k.trans h1, e _ _ h2⟩
  | tab q => exact TabF.mono h e k
  | lst ds => obtain ⟨vs, h1, h2⟩ := h; exact ⟨vs, k.trans h1, h2.mono e⟩
  | dic ds => obtain ⟨vs, h1, h2⟩ := h; exact ⟨vs, k.trans h1, h2.mono e⟩
  | ins C dx fs => obtain ⟨vs, h1, h2⟩ := h; exact ⟨vs, k.trans h1, h2.mono e⟩
def keys (O : Own) : List Addr := O.map (·.1)
theorem mem_keys {O : Own} {p : Addr × OV} (h : p ∈ O) : p.1 ∈ keys O := List.mem_map.mpr ⟨p, h, rfl⟩
/-- the content at a replaced -/
inductive OSet : Own → Addr → OV → Own → Prop
  | z {a : Addr} {ov ov' : OV} {r : Own} : OSet ((a, ov) :: r) a ov' ((a, ov') :: r)
  | s {x : Addr × OV} {a : Addr} {ov' : OV} {r r' : Own} : OSet r a ov' r' → OSet (x :: r) a ov' (x :: r')
/-- the entry taken out -/
inductive ODel : Own → Addr → OV → Own → Prop
  | z {a : Addr} {ov : OV} {r : Own} : ODel ((a, ov) :: r) a ov r
  | s {x : Addr × OV} {a : Addr} {ov : OV} {r r' : Own} : ODel r a ov r' → ODel (x :: r) a ov (x :: r')
theorem OSet.keys_eq : ∀ {O O' : Own} {a : Addr} {ov' : OV}, OSet O a ov' O' → keys O' = keys O
  | _, _, _, _, .z => rfl
  | _, _, _, _, .s (x := x) h => by
    show x.1 :: keys _ = x.1 :: keys _
    rw [OSet.keys_eq h]
theorem OSet.mem : ∀ {O O' : Own} {a : Addr} {ov' : OV}, OSet O a ov' O' → a ∈ keys O
  | _, _, _, _, .z => List.mem_cons_self
  | _, _, _, _, .s h => List.mem_cons_of_mem _ (OSet.mem h)
theorem OSet.of_mem : ∀ {O O' : Own} {a : Addr} {ov' : OV}, OSet O a ov' O' → (keys O).Nodup → ∀ p ∈ O', (p = (a, ov')) ∨ (p ∈ O ∧ p.1 ≠ a)
  | _, _, _, _, .z, nd, p, hp => by
    rcases List.mem_cons.mp hp with e | hp
    · exact .inl e
    · refine .inr ⟨List.mem_cons_of_mem _ hp, fun e => ?_⟩
      have q := (List.nodup_cons.mp nd).1
      have z := mem_keys hp
      rw [e] at z
      exact q z
  | _, _, _, _, .s h, nd, p, hp => by
    rcases List.mem_cons.mp hp with e | hp
    · subst e
      refine .inr ⟨List.mem_cons_self, fun e => ?_⟩
      have q := (List.nodup_cons.mp nd).1
      have z := OSet.mem h
      rw [← e] at z
      exact q z
    · rcases OSet.of_mem h (List.nodup_cons.mp nd).2 p hp with q | ⟨q1, q2⟩
      · exact .inl q
      · exact .inr ⟨List.mem_cons_of_mem _ q1, q2⟩
theorem ODel.sub : ∀ {O O' : Own} {a : Addr} {ov : OV}, ODel O a ov O' → ∀ p ∈ O', p ∈ O
  | _, _, _, _, .z, p, hp => List.mem_cons_of_mem _ hp
  | _, _, _, _, .s h, p, hp => by
    rcases List.mem_cons.mp hp with e | hp
    · subst e; exact List.mem_cons_self
    · exact List.mem_cons_of_mem _ (ODel.sub h p hp)
theorem ODel.mem : ∀ {O O' : Own} {a : Addr} {ov : OV}, ODel O a ov O' → (a, ov) ∈ O
  | _, _, _, _, .z => List.mem_cons_self
  | _, _, _, _, .s h => List.mem_cons_of_mem _ (ODel.mem h)
theorem keys_mem {O : Own} {a : Addr} (h : a ∈ keys O) : ∃ ov, (a, ov) ∈ O := by
  obtain ⟨p, hp, e⟩ := List.mem_map.mp h
  exact ⟨p.2, by rw [← e]; exact hp⟩
theorem ODel.keys_sub {O O' : Own} {a : Addr} {ov : OV} (h : ODel O a ov O') {b : Addr} (hb : b ∈ keys O') : b ∈ keys O := by
  obtain ⟨ov, q⟩ := keys_mem hb
  exact mem_keys (h.sub _ q)
theorem ODel.nd : ∀ {O O' : Own} {a : Addr} {ov : OV}, ODel O a ov O' → (keys O).Nodup → (keys O').Nodup ∧ a ∉ keys O'
  | _, _, _, _, .z, nd => ⟨(List.nodup_cons.mp nd).2, (List.nodup_cons.mp nd).1⟩
  | _, _, _, _, .s (x := x) h, nd => by
    obtain ⟨n1, n2⟩ := List.nodup_cons.mp nd
    obtain ⟨q1, q2⟩ := ODel.nd h n2
    refine ⟨List.nodup_cons.mpr ⟨fun e => n1 (h.keys_sub e), q1⟩, fun e => ?_⟩
    rcases List.mem_cons.mp e with e | e
    · exact n1 (e ▸ mem_keys h.mem)
    · exact q2 e
structure Bs where
  F : Hp
  H : Hp
  O : List Addr
abbrev Sl := List (Option D)
structure Sat (K : PySem.W.Frag) (B : Bs) (G : Sl) (O : Own) (F : Hp) (σ : L2.St) (H : Hp) : Prop where
  len : σ.length = G.length
  slot : ∀ (i : Nat) (d : D), G[i]? = some (some d) → ∃ v, σ[i]? = some (some v) ∧ Rep K F v d
  ex : Same F H
  nd : (keys O).Nodup
  own : ∀ p ∈ O, F p.1 = none ∧ ORep K F H p.1 p.2
  bF : Same B.F F
  bH : ∀ a o, B.H a = some o → B.F a = none → a ∉ B.O → H a = some o ∧ F a = none ∧ a ∉ keys O
section
variable {K : PySem.W.Frag} {B : Bs} {G : Sl} {O O' : Own} {F H : Hp} {σ : L2.St}
theorem Sat.lt (S : Sat K B G O F σ H) {p : Addr × OV} (hp : p ∈ O) : ∃ o, H p.1 = some o := (S.own p hp).2.there
theorem Sat.fresh (S : Sat K B G O F σ H) {a : Addr} (h : H a = none) : F a = none ∧ a ∉ keys O := by
  refine ⟨S.ex.free h, fun hm => ?_⟩
  obtain ⟨ov, q⟩ := keys_mem hm
  obtain ⟨o, e⟩ := S.lt q
  rw [h] at e
  cases e
theorem same_upd {H : Hp} {p : Addr} {o : HO} (h : H p = none) : Same H (upd H p o) := fun b x e => by
  rw [upd_ne (ne_of_none e h)]
  exact e
/-- a new object that will not change -/
theorem Sat.alloc (S : Sat K B G O F σ H) {p : Addr} (hp : H p = none) (o : HO) : Sat K B G O (upd F p o) σ (upd H p o) := by
  obtain ⟨hF, hO⟩ := S.fresh hp
  have eF : Same F (upd F p o) := same_upd hF
  refine ⟨S.len, fun i d e => ?_, fun b u e => ?_, S.nd, fun q hq => ?_, S.bF.trans eF, fun a u e1 e2 e3 => ?_⟩
  · obtain ⟨v, h1, h2⟩ := S.slot i d e
    exact ⟨v, h1, h2.mono eF⟩
  · by_cases hb : b = p
    · subst hb
      rw [upd_same] at e ⊢
      exact e
    · rw [upd_ne hb] at e ⊢
      exact S.ex b u e
  · have ne : q.1 ≠ p := fun z => hO (z ▸ mem_keys hq)
    refine ⟨by rw [upd_ne ne]; exact (S.own q hq).1, (S.own q hq).2.mono eF (upd_ne ne)⟩
  · obtain ⟨h1, h2, h3⟩ := S.bH a u e1 e2 e3
    have ne : a ≠ p := fun z => by rw [z, hp] at h1; cases h1
    exact ⟨by rw [upd_ne ne]; exact h1, by rw [upd_ne ne]; exact h2, h3⟩
/-- a new object that is owned -/
theorem Sat.allocOwn (S : Sat K B G O F σ H) {p : Addr} (hp : H p = none) {o : HO} {ov : OV} (ho : ORep K F (upd H p o) p ov) : Sat K B G ((p, ov) :: O) F σ (upd H p o) := by
  obtain ⟨hF, hO⟩ := S.fresh hp
  refine ⟨S.len, S.slot, S.ex.trans (same_upd hp), List.nodup_cons.mpr ⟨hO, S.nd⟩, fun q hq => ?_, S.bF, fun a u e1 e2 e3 => ?_⟩
  · rcases List.mem_cons.mp hq with e | hq
    · subst e
      exact ⟨hF, ho⟩
    · have ne : q.1 ≠ p := fun z => hO (z ▸ mem_keys hq)
      exact ⟨(S.own q hq).1, (S.own q hq).2.mono (Same.refl _) (upd_ne ne)⟩
  · obtain ⟨h1, h2, h3⟩ := S.bH a u e1 e2 e3
    have ne : a ≠ p := fun z => by rw [z, hp] at h1; cases h1
    refine ⟨by rw [upd_ne ne]; exact h1, h2, fun hm => ?_⟩
    rcases List.mem_cons.mp hm with z | z
    · exact ne z
    · exact h3 z
/-- an owned object changed -/
theorem Sat.mut (S : Sat K B G O F σ H) {p : Addr} {o : HO} {ov : OV} (hs : OSet O p ov O') (ho : ORep K F (upd H p o) p ov) : Sat K B G O' F σ (upd H p o) := by
  obtain ⟨ov0, hp0⟩ := keys_mem hs.mem
  have hF : F p = none := (S.own _ hp0).1
  refine ⟨S.len, S.slot, fun b u e => ?_, by rw [hs.keys_eq]; exact S.nd, fun q hq => ?_, S.bF, fun a u e1 e2 e3 => ?_⟩
  · rw [upd_ne (ne_of_none e hF)]
    exact S.ex b u e
  · rcases hs.of_mem S.nd q hq with e | ⟨hq, ne⟩
    · subst e
      exact ⟨hF, ho⟩
    · exact ⟨(S.own q hq).1, (S.own q hq).2.mono (Same.refl _) (upd_ne ne)⟩
  · obtain ⟨h1, h2, h3⟩ := S.bH a u e1 e2 e3
    have ne : a ≠ p := fun z => h3 (z ▸ hs.mem)
    exact ⟨by rw [upd_ne ne]; exact h1, h2, by rw [hs.keys_eq]; exact h3⟩
/-- an owned object is forgotten -/
theorem Sat.sub (S : Sat K B G O F σ H) (hs : ∀ p ∈ O', p ∈ O) (nd : (keys O').Nodup) : Sat K B G O' F σ H :=
  ⟨S.len, S.slot, S.ex, nd, fun q hq => S.own q (hs q hq), S.bF, fun a u e1 e2 e3 => by
    obtain ⟨h1, h2, h3⟩ := S.bH a u e1 e2 e3
    refine ⟨h1, h2, fun hm => ?_⟩
    obtain ⟨ov, q⟩ := keys_mem hm
    exact h3 (mem_keys (hs _ q))⟩
/-- an owned list will not change any more -/
theorem Sat.freeze (S : Sat K B G O F σ H) {p : Addr} {ds : List D} (hd : ODel O p (.lst ds) O') :
    ∃ vs, H p = some (.lst vs) ∧ Reps K F vs ds ∧ Same F (upd F p (.lst vs)) ∧ Sat K B G O' (upd F p (.lst vs)) σ H := by
  obtain ⟨hF, vs, hv, hr⟩ := S.own _ hd.mem
  have hv : H p = some (.lst vs) := hv
  have hF : F p = none := hF
  have eF : Same F (upd F p (.lst vs)) := same_upd hF
  obtain ⟨n1, n2⟩ := hd.nd S.nd
  refine ⟨vs, hv, hr, eF, S.len, fun i d e => ?_, fun b u e => ?_, n1, fun q hq => ?_, S.bF.trans eF, fun a u e1 e2 e3 => ?_⟩
  · obtain ⟨v, h1, h2⟩ := S.slot i d e
    exact ⟨v, h1, h2.mono eF⟩
  · by_cases hb : b = p
    · subst hb
      rw [upd_same] at e
      cases e
      exact hv
    · rw [upd_ne hb] at e
      exact S.ex b u e
  · have ne : q.1 ≠ p := fun z => n2 (z ▸ mem_keys hq)
    exact ⟨by rw [upd_ne ne]; exact (S.own q (hd.sub q hq)).1, (S.own q (hd.sub q hq)).2.mono eF rfl⟩
  · obtain ⟨h1, h2, h3⟩ := S.bH a u e1 e2 e3
    have ne : a ≠ p := fun z => h3 (z ▸ mem_keys hd.mem)
    exact ⟨h1, by rw [upd_ne ne]; exact h2, fun hm => h3 (hd.keys_sub hm)⟩
theorem Sat.set (S : Sat K B G O F σ H) {i : Nat} {v : V} {d : D} (r : Rep K F v d) : Sat K B (G.set i (some d)) O F (σ.set i (some v)) H := by
  refine ⟨by rw [List.length_set, List.length_set]; exact S.len, fun j e h => ?_, S.ex, S.nd, S.own, S.bF, S.bH⟩
  by_cases hj : i = j
  · subst hj
    by_cases hl : i < G.length
    · rw [List.getElem?_set_self hl] at h
      cases h
      exact ⟨v, List.getElem?_set_self (by rw [S.len]; exact hl), r⟩
    · rw [List.getElem?_eq_none (by rw [List.length_set]; omega)] at h
      cases h
  · rw [List.getElem?_set_ne hj] at h ⊢
    exact S.slot j e h
theorem Sat.slots {G' : Sl} {σ' : L2.St} (S : Sat K B G O F σ H) (hl : σ'.length = G'.length) (h : ∀ (i : Nat) (d : D), G'[i]? = some (some d) → ∃ v, σ'[i]? = some (some v) ∧ Rep K F v d) : Sat K B G' O F σ' H :=
  ⟨hl, h, S.ex, S.nd, S.own, S.bF, S.bH⟩
end
end Dl
set_option Elab.async false
set_option linter.all false
set_option maxRecDepth 100000
set_option maxHeartbeats 2000000
namespace Dl
open PySem PySem.Spec PyProof.Rows L2
/-- not *e -/
def plainB : Expr → Bool
  | .Starred _ _ => false
  | _ => true
theorem star_cons {e : Expr} {es : List Expr} {env : Env} (h : plainB e = true) : starEach (e :: es) env = (false, eval e env) :: starEach es env := by
  cases e <;> first | rfl | cases h
section
variable (X : Cx)
structure tSem (e : Expr) (σ : L2.St) (H : Hp) (Q : VK) : Prop where
  run : ∀ (pins : List (Addr × Obj)) (s : Shared), Inv X pins σ H s → wpAny (model X.prog X.w) X.A (eval e X.env) (EP X pins σ Q) X.xe s
structure tSemT (e : Expr) (σ : L2.St) (H : Hp) (Q : Bool → Hp → Prop) : Prop where
  run : ∀ (pins : List (Addr × Obj)) (s : Shared), Inv X pins σ H s → wpAny (model X.prog X.w) X.A (isTrue e X.env (eval e X.env)) (TP X pins σ Q) X.xe s
structure tSemW (e : Expr) (σ : L2.St) (H : Hp) (Q : Bool → Hp → Prop) : Prop where
  run : ∀ (whole : Sem Value) (pins : List (Addr × Obj)) (s : Shared), Inv X pins σ H s → wpAny (model X.prog X.w) X.A (isTrue e X.env whole) (TP X pins σ Q) X.xe s
structure tSemA (es : List Expr) (σ : L2.St) (H : Hp) (Q : List V → Hp → Prop) : Prop where
  run : ∀ (pos : Pos) (pins : List (Addr × Obj)) (s : Shared), Inv X pins σ H s → wpAny (model X.prog X.w) X.A (spliced (backTo pos (starEach es X.env))) (AP X pins σ Q) X.xe s
structure tSemS (st : Stmt) (D : Ends) (σ : L2.St) (H : Hp) : Prop where
  run : ∀ (pins : List (Addr × Obj)) (s : Shared), Inv X pins σ H s → wpAny (model X.prog X.w) X.A (exec st X.env) (SP X pins D) X.xe s
structure tSemSs (st : List Stmt) (D : Ends) (σ : L2.St) (H : Hp) : Prop where
  run : ∀ (pins : List (Addr × Obj)) (s : Shared), Inv X pins σ H s → wpAny (model X.prog X.w) X.A (execs st X.env) (SP X pins D) X.xe s
structure tSemG (tg : Expr) (v : V) (σ : L2.St) (H : Hp) (Q : L2.St → Hp → Prop) : Prop where
  run : ∀ (pins : List (Addr × Obj)) (s : Shared) (u : Value), Inv X pins σ H s → RelV v u →
    wpAny (model X.prog X.w) X.A (assign tg X.env u) (fun _ s' => ∃ σ' H', Inv X pins σ' H' s' ∧ Q σ' H') X.xe s
structure tSemI (tg iter : Expr) (σ : L2.St) (H : Hp) (R : It → Hp → Prop) : Prop where
  run : ∀ (pins : List (Addr × Obj)) (s : Shared), Inv X pins σ H s →
    wpAny (model X.prog X.w) X.A (eval iter X.env) (fun v s1 => wpAny (model X.prog X.w) X.A (pyIter v) (PIE X pins σ tg R) X.xe s1) X.xe s
variable {X}
theorem pe_sem {e : Expr} : PE X e (tSem X e) := ⟨fun pins s _ _ _ I h => h.run pins s I⟩
theorem pt_sem {e : Expr} : PT X e (tSemT X e) := ⟨fun pins s _ _ _ I h => h.run pins s I⟩
theorem pw_sem {e : Expr} : PW X e (tSemW X e) := ⟨fun wh pins s _ _ _ I h => h.run wh pins s I⟩
theorem pa_sem {es : List Expr} : PA X es (tSemA X es) := ⟨fun pos pins s _ _ _ I h => h.run pos pins s I⟩
theorem ps_sem {st : Stmt} : PS X st (tSemS X st) := ⟨fun pins s _ _ _ I h => h.run pins s I⟩
theorem pss_sem {st : List Stmt} : PSs X st (tSemSs X st) := ⟨fun pins s _ _ _ I h => h.run pins s I⟩
theorem pg_sem {tg : Expr} : PG X tg (tSemG X tg) := ⟨fun pins s _ _ _ u _ I r h => h.run pins s u I r⟩
theorem pi_sem {tg iter : Expr} : PI X tg iter (tSemI X tg iter) := ⟨fun pins s _ _ _ I h => h.run pins s I⟩
theorem sem {e : Expr} {t : TE} {σ : L2.St} {H : Hp} {Q : VK} (h : PE X e t) (q : t σ H Q) : tSem X e σ H Q := ⟨fun pins s I => h.run pins s σ H Q I q⟩
theorem semT {e : Expr} {t : TT} {σ : L2.St} {H : Hp} {Q : Bool → Hp → Prop} (h : PT X e t) (q : t σ H Q) : tSemT X e σ H Q := ⟨fun pins s I => h.run pins s σ H Q I q⟩
theorem semW {e : Expr} {t : TT} {σ : L2.St} {H : Hp} {Q : Bool → Hp → Prop} (h : PW X e t) (q : t σ H Q) : tSemW X e σ H Q := ⟨fun wh pins s I => h.run wh pins s σ H Q I q⟩
theorem semA {es : List Expr} {t : TA} {σ : L2.St} {H : Hp} {Q : List V → Hp → Prop} (h : PA X es t) (q : t σ H Q) : tSemA X es σ H Q := ⟨fun pos pins s I => h.run pos pins s σ H Q I q⟩
theorem semS {st : Stmt} {t : TS} {σ : L2.St} {H : Hp} {D : Ends} (h : PS X st t) (q : t D σ H) : tSemS X st D σ H := ⟨fun pins s I => h.run pins s σ H D I q⟩
theorem semSs {st : List Stmt} {t : TS} {σ : L2.St} {H : Hp} {D : Ends} (h : PSs X st t) (q : t D σ H) : tSemSs X st D σ H := ⟨fun pins s I => h.run pins s σ H D I q⟩
theorem semG {tg : Expr} {t : TG} {v : V} {σ : L2.St} {H : Hp} {Q : L2.St → Hp → Prop} (h : PG X tg t) (q : t v σ H Q) : tSemG X tg v σ H Q := ⟨fun pins s u I r => h.run pins s σ H v u Q I r q⟩
theorem semI {tg iter : Expr} {t : TI} {σ : L2.St} {H : Hp} {R : It → Hp → Prop} (h : PI X tg iter t) (q : t σ H R) : tSemI X tg iter σ H R := ⟨fun pins s I => h.run pins s σ H R I q⟩
end
structure Mach where
  P : Program
  w : World
  K : PySem.W.Frag
  mg : Str → Option Value
  base : Heap
def machOf (X : Cx) : Mach := ⟨X.prog, X.w, X.K, X.mg, X.base⟩
structure Cxt (M : Mach) (X : Cx) (N : List Str) (sc : Scope) (vb lb gb : Str → Bool) : Prop where
  hM : machOf X = M
  hN : X.N = N
  hsc : X.env.scope = sc
  kf : X.env.scope.kind = .function
  nd : N.Nodup
  calm : X.calm = true
  own : PassesOwn (model X.prog X.w) X.A X.env X.xe
  un : X.A.units + 64 < cLine
  vis : ∀ x, vb x = true → Vis X.env.scope x ∧ (x == ("__debug__" : Str)) = false ∧ (x == ("__classdict__" : Str)) = false
  loc : ∀ x, lb x = true → Loc X.env.scope x ∧ (X.fn x = true ∨ X.env.scope.names.lookup x = some .local)
  gl : ∀ x, gb x = true → Gl X x ∧ (x == ("__debug__" : Str)) = false
section
variable {M : Mach} {X : Cx} {N : List Str} {sc : Scope} {vb lb gb : Str → Bool} (C : Cxt M X N sc vb lb gb)
include C
theorem Cxt.K : X.K = M.K := by rw [← C.hM] <;> rfl
theorem Cxt.mg : X.mg = M.mg := by rw [← C.hM] <;> rfl
theorem Cxt.P : X.prog = M.P := by rw [← C.hM] <;> rfl
theorem Cxt.w : X.w = M.w := by rw [← C.hM] <;> rfl
theorem Cxt.base : X.base = M.base := by rw [← C.hM] <;> rfl
end
/-- the name's slot holds d -/
inductive VarAt : List Str → Sl → Str → D → Prop
  | z {x : Str} {N : List Str} {G : Sl} {d : D} : VarAt (x :: N) (some d :: G) x d
  | s {x y : Str} {N : List Str} {G : Sl} {d : D} {g : Option D} : VarAt N G x d → VarAt (y :: N) (g :: G) x d
theorem VarAt.ix : ∀ {N : List Str} {G : Sl} {x : Str} {d : D}, VarAt N G x d → ∃ i : Nat, N[i]? = some x ∧ G[i]? = some (some d)
  | _, _, _, _, .z => ⟨0, rfl, rfl⟩
  | _, _, _, _, .s h => by
    obtain ⟨i, h1, h2⟩ := VarAt.ix h
    exact ⟨i + 1, by simpa using h1, by simpa using h2⟩
/-- the name's slot is i; f: the slots with it set -/
inductive SetAt : List Str → Sl → Str → Nat → (D → Sl) → Prop
  | z {x : Str} {N : List Str} {G : Sl} {g : Option D} : SetAt (x :: N) (g :: G) x 0 (fun d => some d :: G)
  | s {x y : Str} {N : List Str} {G : Sl} {i : Nat} {f : D → Sl} {g : Option D} : SetAt N G x i f → SetAt (y :: N) (g :: G) x (i + 1) (fun d => g :: f d)
theorem SetAt.ix : ∀ {N : List Str} {G : Sl} {x : Str} {i : Nat} {f : D → Sl}, SetAt N G x i f → N[i]? = some x ∧ ∀ d, f d = G.set i (some d)
  | _, _, _, _, _, .z => ⟨rfl, fun _ => rfl⟩
  | _, _, _, _, _, .s h => by
    obtain ⟨h1, h2⟩ := SetAt.ix h
    exact ⟨by simpa using h1, fun d => by rw [List.set_cons_succ, ← h2]⟩
section
variable (X : Cx) (B : Bs) (G : Sl) (O : Own)
def WE (e : Expr) (Φ : D → Own → Prop) : Prop := ∀ F σ H, Sat X.K B G O F σ H → ∀ Q : VK, (∀ v F' H' d O', Sat X.K B G O' F' σ H' → Same F F' → Rep X.K F' v d → Φ d O' → Q v H') → tSem X e σ H Q
def WT (e : Expr) (Φ : Bool → Own → Prop) : Prop := ∀ F σ H, Sat X.K B G O F σ H → ∀ Q : Bool → Hp → Prop, (∀ b F' H' O', Sat X.K B G O' F' σ H' → Same F F' → Φ b O' → Q b H') → tSemT X e σ H Q
def WW (e : Expr) (Φ : Bool → Own → Prop) : Prop := ∀ F σ H, Sat X.K B G O F σ H → ∀ Q : Bool → Hp → Prop, (∀ b F' H' O', Sat X.K B G O' F' σ H' → Same F F' → Φ b O' → Q b H') → tSemW X e σ H Q
def WA (es : List Expr) (Φ : List D → Own → Prop) : Prop := ∀ F σ H, Sat X.K B G O F σ H → ∀ Q : List V → Hp → Prop, (∀ vs F' H' ds O', Sat X.K B G O' F' σ H' → Same F F' → Reps X.K F' vs ds → Φ ds O' → Q vs H') → tSemA X es σ H Q
/-- pure: nothing owned changes -/
def PEv (e : Expr) (d : D) : Prop := WE X B G O e fun d' O' => d' = d ∧ O' = O
def PTv (e : Expr) (b : Bool) : Prop := WT X B G O e fun b' O' => b' = b ∧ O' = O
def PAv (es : List Expr) (ds : List D) : Prop := WA X B G O es fun ds' O' => ds' = ds ∧ O' = O
end
section
variable {X : Cx} {B : Bs} {G : Sl} {O : Own} {e a b : Expr} {es : List Expr}
theorem WE.mono {Φ Ψ : D → Own → Prop} (h : WE X B G O e Φ) (k : ∀ d O', Φ d O' → Ψ d O') : WE X B G O e Ψ := fun F σ H S Q q => h F σ H S Q fun v F' H' d O' S' e' r p => q v F' H' d O' S' e' r (k d O' p)
theorem WT.mono {Φ Ψ : Bool → Own → Prop} (h : WT X B G O e Φ) (k : ∀ d O', Φ d O' → Ψ d O') : WT X B G O e Ψ := fun F σ H S Q q => h F σ H S Q fun v F' H' O' S' e' p => q v F' H' O' S' e' (k v O' p)
theorem WA.mono {Φ Ψ : List D → Own → Prop} (h : WA X B G O es Φ) (k : ∀ d O', Φ d O' → Ψ d O') : WA X B G O es Ψ := fun F σ H S Q q => h F σ H S Q fun v F' H' d O' S' e' r p => q v F' H' d O' S' e' r (k d O' p)
theorem we_pv {d : D} {Φ : D → Own → Prop} (h : PEv X B G O e d) (q : Φ d O) : WE X B G O e Φ := WE.mono h fun _ _ z => by rw [z.1, z.2]; exact q
theorem wt_pv {b : Bool} {Φ : Bool → Own → Prop} (h : PTv X B G O e b) (q : Φ b O) : WT X B G O e Φ := WT.mono h fun _ _ z => by rw [z.1, z.2]; exact q
theorem wa_pv {d : List D} {Φ : List D → Own → Prop} (h : PAv X B G O es d) (q : Φ d O) : WA X B G O es Φ := WA.mono h fun _ _ z => by rw [z.1, z.2]; exact q
theorem PEv.to {d d' : D} (h : PEv X B G O e d) (k : d = d') : PEv X B G O e d' := k ▸ h
theorem PTv.to {d d' : Bool} (h : PTv X B G O e d) (k : d = d') : PTv X B G O e d' := k ▸ h
theorem wa_nil {Φ : List D → Own → Prop} (q : Φ [] O) : WA X B G O [] Φ := fun F σ H S Q k => semA pa_nil (k [] F H [] O S (Same.refl _) .nil q)
theorem wa_cons {Φ : List D → Own → Prop} (h : WE X B G O e fun d O1 => WA X B G O1 es fun ds O2 => Φ (d :: ds) O2) (hs : starEach (e :: es) X.env = (false, eval e X.env) :: starEach es X.env := by exact star_cons rfl) : WA X B G O (e :: es) Φ := fun F σ H S Q k => by
  refine semA (pa_cons pe_sem pa_sem hs) ?_
  refine h F σ H S _ fun v F1 H1 d O1 S1 e1 r1 p1 => ?_
  exact p1 F1 σ H1 S1 _ fun vs F2 H2 ds O2 S2 e2 r2 p2 => k _ F2 H2 _ O2 S2 (e1.trans e2) (.cons (r1.mono e2) r2) p2
theorem pa_nilv : PAv X B G O [] [] := wa_nil ⟨rfl, rfl⟩
theorem pa_consv {d : D} {ds : List D} (h : PEv X B G O e d) (hr : PAv X B G O es ds) (hs : starEach (e :: es) X.env = (false, eval e X.env) :: starEach es X.env := by exact star_cons rfl) : PAv X B G O (e :: es) (d :: ds) :=
  wa_cons (we_pv h (wa_pv hr ⟨rfl, rfl⟩)) hs
theorem we_c {v : V} {d : D} {Φ : D → Own → Prop} (h : PE X e (tC v)) (r : ∀ F, Rep X.K F v d) (q : Φ d O) : WE X B G O e Φ := fun F σ H S Q k => sem h (k v F H d O S (Same.refl _) (r F) q)
theorem pv_int {i : Int} {j pos} : PEv X B G O (.Constant (.int i) j pos) (.int i) := we_c pe_int (fun _ => .int i) ⟨rfl, rfl⟩
theorem pv_bl {b : Bool} {j pos} : PEv X B G O (.Constant (.bool b) j pos) (.bl b) := we_c pe_bl (fun _ => .bl b) ⟨rfl, rfl⟩
theorem pv_non {j pos} : PEv X B G O (.Constant .none j pos) .non := we_c pe_non (fun _ => .non) ⟨rfl, rfl⟩
theorem pv_str {x : Str} {j pos} : PEv X B G O (.Constant (.str x) j pos) (.str x) := we_c pe_str (fun _ => .str x) ⟨rfl, rfl⟩
end
section
variable {M : Mach} {X : Cx} {N : List Str} {sc : Scope} {vb lb gb : Str → Bool} {B : Bs} {G : Sl} {O : Own} {e a b : Expr} {es : List Expr}
theorem pv_var {x : Str} {d : D} {pos : Pos} (C : Cxt M X N sc vb lb gb) (h : VarAt N G x d) (hv : vb x = true) : PEv X B G O (.Name x pos) d := fun F σ H S Q k => by
  obtain ⟨i, h1, h2⟩ := h.ix
  obtain ⟨w1, w2, w3⟩ := C.vis x hv
  obtain ⟨v, e, r⟩ := S.slot i d h2
  exact sem (pe_var (i := i) (by rw [C.hN]; exact h1) w1 w2 w3) ⟨v, e, k v F H d O S (Same.refl _) r ⟨rfl, rfl⟩⟩
/-- a module's constant, a def, a class -/
theorem pv_glob {x : Str} {v : V} {u : Value} {d : D} {pos : Pos} (C : Cxt M X N sc vb lb gb) (hm : M.mg x = some u) (r : RelV v u) (hr : ∀ F, Rep X.K F v d) (hg : gb x = true) : PEv X B G O (.Name x pos) d :=
  we_c (pe_glob (C.gl x hg).1 (by rw [C.mg]; exact hm) r (C.gl x hg).2) hr ⟨rfl, rfl⟩
theorem pv_globI {x : Str} {i : Int} {pos : Pos} (C : Cxt M X N sc vb lb gb) (hm : ∃ t, M.mg x = some (.int i t)) (hg : gb x = true) : PEv X B G O (.Name x pos) (.int i) := by
  obtain ⟨t, hm⟩ := hm
  exact pv_glob C hm (v := .int i) ⟨_, rfl⟩ (fun _ => .int i) hg
theorem pv_bltnTy {x : Str} {n : String} {pos : Pos} (C : Cxt M X N sc vb lb gb) (hm : M.mg x = none) (hv : bootBuiltins x = some (.type n)) (hg : gb x = true) (hn : x ≠ "__name__" := by decide) : PEv X B G O (.Name x pos) (.ty n) :=
  we_c (pe_bltn (v := .ty n) (C.gl x hg).1 (by rw [C.mg]; exact hm) hv rfl hn (C.gl x hg).2) (fun _ => .ty n) ⟨rfl, rfl⟩
end
abbrev DR2 := D → D → Own → (D → Own → Prop) → Prop
section
variable {X : Cx} {B : Bs} {G : Sl} {O : Own} {e a b : Expr} {es : List Expr} {pos : Pos} {R : DR2} {r : R2} {Φ : D → Own → Prop} {d1 d2 d : D}
def DOp (X : Cx) (r : R2) (R : DR2) : Prop := ∀ (B : Bs) (G : Sl) (O : Own) (F : Hp) (σ : L2.St) (H : Hp) (x y : V) (dx dy : D) (Φ : D → Own → Prop), Sat X.K B G O F σ H → Rep X.K F x dx → Rep X.K F y dy → R dx dy O Φ →
  ∀ Q : VK, (∀ v F' H' d O', Sat X.K B G O' F' σ H' → Same F F' → Rep X.K F' v d → Φ d O' → Q v H') → r x y H Q
theorem run2 {Q : VK} {σ : L2.St} {F H : Hp} (hd : DOp X r R) (h : WE X B G O a fun d1 O1 => WE X B G O1 b fun d2 O2 => R d1 d2 O2 Φ) (S : Sat X.K B G O F σ H)
    (k : ∀ v F' H' d O', Sat X.K B G O' F' σ H' → Same F F' → Rep X.K F' v d → Φ d O' → Q v H') : tOp r (tSem X a) (tSem X b) σ H Q := by
  refine h F σ H S _ fun v F1 H1 d O1 S1 e1 r1 p1 => ?_
  refine p1 F1 σ H1 S1 _ fun u F2 H2 d2 O2 S2 e2 r2 p2 => ?_
  exact hd B G O2 F2 σ H2 v u d d2 Φ S2 (r1.mono e2) r2 p2 Q fun v3 F3 H3 d3 O3 S3 e3 r3 p3 => k v3 F3 H3 d3 O3 S3 ((e1.trans e2).trans e3) r3 p3
theorem we_op {op : Operator} (ho : OpR X (binaryOp op) r) (hd : DOp X r R) (h : WE X B G O a fun d1 O1 => WE X B G O1 b fun d2 O2 => R d1 d2 O2 Φ) : WE X B G O (.BinOp a op b pos) Φ :=
  fun F σ H S Q k => sem (pe_op ho pe_sem pe_sem) (run2 hd h S k)
theorem pv_op {op : Operator} (ho : OpR X (binaryOp op) r) (hd : DOp X r R) (ha : PEv X B G O a d1) (hb : PEv X B G O b d2) (q : R d1 d2 O fun d' O' => d' = d ∧ O' = O) : PEv X B G O (.BinOp a op b pos) d :=
  we_op ho hd (we_pv ha (we_pv hb q))
theorem we_cmp {op : CmpOp} (ho : OpR X (compareOp op) r) (hd : DOp X r R) (hm : behindInMarks op b = false) (h : WE X B G O a fun d1 O1 => WE X B G O1 b fun d2 O2 => R d1 d2 O2 Φ) : WE X B G O (.Compare a [op] [b] pos) Φ :=
  fun F σ H S Q k => sem (pe_cmpR ho pe_sem pe_sem hm) (run2 hd h S k)
theorem wt_cmp {op : CmpOp} {Φ : Bool → Own → Prop} (ho : OpR X (compareOp op) r) (hd : DOp X r R) (hm : behindInMarks op b = false) (h : WE X B G O a fun d1 O1 => WE X B G O1 b fun d2 O2 => R d1 d2 O2 fun d O' => ∃ c, d = .bl c ∧ Φ c O') : WT X B G O (.Compare a [op] [b] pos) Φ :=
  fun F σ H S Q k => semT (pt_cmpR ho pe_sem pe_sem hm) (by
    show tOp r (tSem X a) (tSem X b) σ H fun x H' => ∃ k, x = .bl k ∧ Q k H'
    refine run2 hd h S fun v F' H' d O' S' e' r' p => ?_
    obtain ⟨c, rfl, p⟩ := p
    cases r'
    exact ⟨c, rfl, k c F' H' O' S' e' p⟩)
theorem pv_cmp {op : CmpOp} (ho : OpR X (compareOp op) r) (hd : DOp X r R) (hm : behindInMarks op b = false) (ha : PEv X B G O a d1) (hb : PEv X B G O b d2) (q : R d1 d2 O fun d' O' => d' = d ∧ O' = O) : PEv X B G O (.Compare a [op] [b] pos) d :=
  we_cmp ho hd hm (we_pv ha (we_pv hb q))
theorem ptv_cmp {op : CmpOp} {c : Bool} (ho : OpR X (compareOp op) r) (hd : DOp X r R) (hm : behindInMarks op b = false) (ha : PEv X B G O a d1) (hb : PEv X B G O b d2) (q : R d1 d2 O fun d' O' => d' = .bl c ∧ O' = O) (hR : ∀ O Φ Ψ, (∀ d O, Φ d O → Ψ d O) → R d1 d2 O Φ → R d1 d2 O Ψ) : PTv X B G O (.Compare a [op] [b] pos) c :=
  wt_cmp ho hd hm (we_pv ha (we_pv hb (hR _ _ _ (fun d O' z => ⟨c, z.1, rfl, z.2⟩) q)))
/-- two ints -/
def dI (C : Int → Int → Prop) (g : Int → Int → D) : DR2 := fun x y O Φ => ∃ i j, x = .int i ∧ y = .int j ∧ C i j ∧ Φ (g i j) O
theorem dop_I {C : Int → Int → Prop} {g : Int → Int → Int} : DOp X (rI C fun i j => .int (g i j)) (dI C fun i j => .int (g i j)) := fun B G O F σ H x y dx dy Φ S rx ry h Q k => by
  obtain ⟨i, j, rfl, rfl, hc, q⟩ := h
  cases rx
  cases ry
  exact ⟨i, j, rfl, rfl, hc, k _ F H _ O S (Same.refl _) (.int _) q⟩
theorem dop_I0 {g : Int → Int → Int} : DOp X (rI0 fun i j => .int (g i j)) (dI (fun _ _ => True) fun i j => .int (g i j)) := fun B G O F σ H x y dx dy Φ S rx ry h Q k => by
  obtain ⟨i, j, rfl, rfl, _, q⟩ := h
  cases rx
  cases ry
  exact ⟨i, j, rfl, rfl, k _ F H _ O S (Same.refl _) (.int _) q⟩
theorem dop_B0 {g : Int → Int → Bool} : DOp X (rI0 fun i j => .bl (g i j)) (dI (fun _ _ => True) fun i j => .bl (g i j)) := fun B G O F σ H x y dx dy Φ S rx ry h Q k => by
  obtain ⟨i, j, rfl, rfl, _, q⟩ := h
  cases rx
  cases ry
  exact ⟨i, j, rfl, rfl, k _ F H _ O S (Same.refl _) (.bl _) q⟩
theorem dI_mono {C : Int → Int → Prop} {g : Int → Int → D} {x y : D} (O : Own) (Φ Ψ : D → Own → Prop) (k : ∀ d O, Φ d O → Ψ d O) : dI C g x y O Φ → dI C g x y O Ψ := fun ⟨i, j, a, b, c, q⟩ => ⟨i, j, a, b, c, k _ _ q⟩
variable {i j : Int}
theorem pv_add (ha : PEv X B G O a (.int i)) (hb : PEv X B G O b (.int j)) : PEv X B G O (.BinOp a .Add b pos) (.int (i + j)) := pv_op op_add dop_I0 ha hb ⟨i, j, rfl, rfl, trivial, rfl, rfl⟩
theorem pv_sub (ha : PEv X B G O a (.int i)) (hb : PEv X B G O b (.int j)) : PEv X B G O (.BinOp a .Sub b pos) (.int (i - j)) := pv_op op_sub dop_I0 ha hb ⟨i, j, rfl, rfl, trivial, rfl, rfl⟩
theorem pv_mul (ha : PEv X B G O a (.int i)) (hb : PEv X B G O b (.int j)) (h : CMul i j) : PEv X B G O (.BinOp a .Mult b pos) (.int (i * j)) := pv_op op_mul dop_I ha hb ⟨i, j, rfl, rfl, h, rfl, rfl⟩
theorem pv_fdiv (ha : PEv X B G O a (.int i)) (hb : PEv X B G O b (.int j)) (h : CDiv i j) : PEv X B G O (.BinOp a .FloorDiv b pos) (.int (i / j)) := pv_op op_fdiv dop_I ha hb ⟨i, j, rfl, rfl, h, rfl, rfl⟩
theorem pv_mod (ha : PEv X B G O a (.int i)) (hb : PEv X B G O b (.int j)) (h : 0 < j) : PEv X B G O (.BinOp a .Mod b pos) (.int (i % j)) := pv_op op_mod dop_I ha hb ⟨i, j, rfl, rfl, h, rfl, rfl⟩
theorem pv_pow (ha : PEv X B G O a (.int i)) (hb : PEv X B G O b (.int j)) (h : CPow i j) : PEv X B G O (.BinOp a .Pow b pos) (.int (i ^ j.toNat)) := pv_op op_pow dop_I ha hb ⟨i, j, rfl, rfl, h, rfl, rfl⟩
theorem pt_lt (ha : PEv X B G O a (.int i)) (hb : PEv X B G O b (.int j)) : PTv X B G O (.Compare a [.Lt] [b] pos) (decide (i < j)) := ptv_cmp op_lt dop_B0 (nomark _) ha hb ⟨i, j, rfl, rfl, trivial, rfl, rfl⟩ dI_mono
theorem pt_le (ha : PEv X B G O a (.int i)) (hb : PEv X B G O b (.int j)) : PTv X B G O (.Compare a [.LtE] [b] pos) (decide (i ≤ j)) := ptv_cmp op_le dop_B0 (nomark _) ha hb ⟨i, j, rfl, rfl, trivial, rfl, rfl⟩ dI_mono
theorem pt_gt (ha : PEv X B G O a (.int i)) (hb : PEv X B G O b (.int j)) : PTv X B G O (.Compare a [.Gt] [b] pos) (decide (j < i)) := ptv_cmp op_gt dop_B0 (nomark _) ha hb ⟨i, j, rfl, rfl, trivial, rfl, rfl⟩ dI_mono
theorem pt_ge (ha : PEv X B G O a (.int i)) (hb : PEv X B G O b (.int j)) : PTv X B G O (.Compare a [.GtE] [b] pos) (decide (j ≤ i)) := ptv_cmp op_ge dop_B0 (nomark _) ha hb ⟨i, j, rfl, rfl, trivial, rfl, rfl⟩ dI_mono
theorem pv_lt (ha : PEv X B G O a (.int i)) (hb : PEv X B G O b (.int j)) : PEv X B G O (.Compare a [.Lt] [b] pos) (.bl (decide (i < j))) := pv_cmp op_lt dop_B0 (nomark _) ha hb ⟨i, j, rfl, rfl, trivial, rfl, rfl⟩
theorem pv_le (ha : PEv X B G O a (.int i)) (hb : PEv X B G O b (.int j)) : PEv X B G O (.Compare a [.LtE] [b] pos) (.bl (decide (i ≤ j))) := pv_cmp op_le dop_B0 (nomark _) ha hb ⟨i, j, rfl, rfl, trivial, rfl, rfl⟩
theorem pv_gt (ha : PEv X B G O a (.int i)) (hb : PEv X B G O b (.int j)) : PEv X B G O (.Compare a [.Gt] [b] pos) (.bl (decide (j < i))) := pv_cmp op_gt dop_B0 (nomark _) ha hb ⟨i, j, rfl, rfl, trivial, rfl, rfl⟩
theorem pv_ge (ha : PEv X B G O a (.int i)) (hb : PEv X B G O b (.int j)) : PEv X B G O (.Compare a [.GtE] [b] pos) (.bl (decide (j ≤ i))) := pv_cmp op_ge dop_B0 (nomark _) ha hb ⟨i, j, rfl, rfl, trivial, rfl, rfl⟩
/-- scalars: == is = -/
def dS (c : D → D → Option Bool) (f : Bool → Bool) : DR2 := fun x y O Φ => ∃ q, c x y = some q ∧ Φ (.bl (f q)) O
/-- == of two scalars -/
def eqS : D → D → Option Bool
  | .int i, .int j => some (decide (i = j))
  | .str i, .str j => some (decide (i = j))
  | .bl i, .bl j => some (decide (i = j))
  | .non, .non => some true
  | .non, .int _ => some false
  | .int _, .non => some false
  | .non, .str _ => some false
  | .str _, .non => some false
  | .non, .bl _ => some false
  | .bl _, .non => some false
  | .int _, .str _ => some false
  | .str _, .int _ => some false
  | .bl _, .str _ => some false
  | .str _, .bl _ => some false
  | _, _ => none
theorem eqS_ok {K : PySem.W.Frag} {F : Hp} {x y : V} {dx dy : D} {q : Bool} (rx : Rep K F x dx) (ry : Rep K F y dy) (h : eqS dx dy = some q) : scal x y = true ∧ decide (x = y) = q := by
  have inj : ∀ {α : Type} {f : α → V} (hf : ∀ a b, f a = f b → a = b) [DecidableEq α] (a b : α), decide (f a = f b) = decide (a = b) := fun {α f} hf _ a b => by
    by_cases e : a = b
    · subst e; simp
    · rw [decide_eq_false e, decide_eq_false (fun z => e (hf a b z))]
  cases rx <;> cases ry <;> simp only [eqS, Option.some.injEq, reduceCtorEq] at h <;> subst h <;> refine ⟨rfl, ?_⟩
  all_goals first
    | rfl
    | exact inj (fun a b z => by injection z) _ _
    | exact decide_eq_false (fun z => by cases z)
theorem dop_eq : DOp X rEq (dS eqS id) := fun B G O F σ H x y dx dy Φ S rx ry h Q k => by
  obtain ⟨q, hq, p⟩ := h
  obtain ⟨h1, h2⟩ := eqS_ok rx ry hq
  exact ⟨h1, k _ F H (.bl q) O S (Same.refl _) (by rw [h2]; exact .bl q) p⟩
theorem dop_ne : DOp X rNe (dS eqS not) := fun B G O F σ H x y dx dy Φ S rx ry h Q k => by
  obtain ⟨q, hq, p⟩ := h
  obtain ⟨h1, h2⟩ := eqS_ok rx ry hq
  exact ⟨h1, k _ F H (.bl (!q)) O S (Same.refl _) (by rw [h2]; exact .bl (!q)) p⟩
theorem dS_mono {c : D → D → Option Bool} {f : Bool → Bool} {x y : D} (O : Own) (Φ Ψ : D → Own → Prop) (k : ∀ d O, Φ d O → Ψ d O) : dS c f x y O Φ → dS c f x y O Ψ := fun ⟨i, a, q⟩ => ⟨i, a, k _ _ q⟩
theorem pt_eq {c : Bool} (ha : PEv X B G O a d1) (hb : PEv X B G O b d2) (h : eqS d1 d2 = some c) : PTv X B G O (.Compare a [.Eq] [b] pos) c := ptv_cmp op_eq dop_eq (nomark _) ha hb ⟨c, h, rfl, rfl⟩ dS_mono
theorem pt_ne {c : Bool} (ha : PEv X B G O a d1) (hb : PEv X B G O b d2) (h : eqS d1 d2 = some c) : PTv X B G O (.Compare a [.NotEq] [b] pos) (!c) := ptv_cmp op_ne dop_ne (nomark _) ha hb ⟨c, h, rfl, rfl⟩ dS_mono
theorem pv_eq {c : Bool} (ha : PEv X B G O a d1) (hb : PEv X B G O b d2) (h : eqS d1 d2 = some c) : PEv X B G O (.Compare a [.Eq] [b] pos) (.bl c) := pv_cmp op_eq dop_eq (nomark _) ha hb ⟨c, h, rfl, rfl⟩
/-- is None -/
def isNon : D → Bool
  | .non => true
  | _ => false
def dIs (f : Bool → Bool) : DR2 := fun x y O Φ => y = .non ∧ Φ (.bl (f (isNon x))) O
theorem isNon_ok {K : PySem.W.Frag} {F : Hp} {x : V} {dx : D} (rx : Rep K F x dx) : decide (x = V.non) = isNon dx := by
  cases rx <;> first | rfl | exact decide_eq_false (fun z => by cases z)
theorem dop_is : DOp X (fun x y H Q => y = .non ∧ Q (.bl (decide (x = .non))) H) (dIs id) := fun B G O F σ H x y dx dy Φ S rx ry h Q k => by
  obtain ⟨rfl, p⟩ := h
  cases ry
  exact ⟨rfl, k _ F H (.bl (isNon dx)) O S (Same.refl _) (by rw [isNon_ok rx]; exact .bl _) p⟩
theorem dop_isnot : DOp X (fun x y H Q => y = .non ∧ Q (.bl (!decide (x = .non))) H) (dIs not) := fun B G O F σ H x y dx dy Φ S rx ry h Q k => by
  obtain ⟨rfl, p⟩ := h
  cases ry
  exact ⟨rfl, k _ F H (.bl (!isNon dx)) O S (Same.refl _) (by rw [isNon_ok rx]; exact .bl _) p⟩
theorem dIs_mono {f : Bool → Bool} {x y : D} (O : Own) (Φ Ψ : D → Own → Prop) (k : ∀ d O, Φ d O → Ψ d O) : dIs f x y O Φ → dIs f x y O Ψ := fun ⟨a, q⟩ => ⟨a, k _ _ q⟩
theorem pt_is (ha : PEv X B G O a d1) (hb : PEv X B G O b .non) : PTv X B G O (.Compare a [.Is] [b] pos) (isNon d1) := ptv_cmp op_isN dop_is (nomark _) ha hb ⟨rfl, rfl, rfl⟩ dIs_mono
theorem pt_isnot (ha : PEv X B G O a d1) (hb : PEv X B G O b .non) : PTv X B G O (.Compare a [.IsNot] [b] pos) (!isNon d1) := ptv_cmp op_notN dop_isnot (nomark _) ha hb ⟨rfl, rfl, rfl⟩ dIs_mono
theorem pv_is (ha : PEv X B G O a d1) (hb : PEv X B G O b .non) : PEv X B G O (.Compare a [.Is] [b] pos) (.bl (isNon d1)) := pv_cmp op_isN dop_is (nomark _) ha hb ⟨rfl, rfl, rfl⟩
theorem wt_val {Φ : Bool → Own → Prop} (h : WE X B G O e fun d O' => ∃ c, d = .bl c ∧ Φ c O') (he : ∀ whole, isTrue e X.env whole = (do let v ← whole; standAt e.pos; holding [v] (truthy v)) := by intro _; rfl) : WT X B G O e Φ := fun F σ H S Q k =>
  semT (pt_val pe_sem he) (h F σ H S _ fun v F' H' d O' S' e' r' p => by
    obtain ⟨c, rfl, p⟩ := p
    cases r'
    exact ⟨c, rfl, k c F' H' O' S' e' p⟩)
theorem pt_v {c : Bool} (h : PEv X B G O e (.bl c)) (he : ∀ whole, isTrue e X.env whole = (do let v ← whole; standAt e.pos; holding [v] (truthy v)) := by intro _; rfl) : PTv X B G O e c :=
  wt_val (we_pv h ⟨c, rfl, rfl, rfl⟩) he
variable {ca cb : Bool} {rest : List Expr}
theorem wt_not {Φ : Bool → Own → Prop} (h : WT X B G O a fun c O' => Φ (!c) O') : WT X B G O (.UnaryOp .Not a pos) Φ := fun F σ H S Q k => semT (pt_not pt_sem) (h F σ H S _ fun b F' H' O' S' e' p => k (!b) F' H' O' S' e' p)
theorem pt_notv (h : PTv X B G O a ca) : PTv X B G O (.UnaryOp .Not a pos) (!ca) := wt_not (wt_pv h ⟨rfl, rfl⟩)
theorem ww_and1 {Φ : Bool → Own → Prop} (h : WT X B G O a Φ) : WW X B G O (.BoolOp .And [a] pos) Φ := fun F σ H S Q k => semW (pw_and1 pt_sem) (h F σ H S Q k)
theorem ww_or1 {Φ : Bool → Own → Prop} (h : WT X B G O a Φ) : WW X B G O (.BoolOp .Or [a] pos) Φ := fun F σ H S Q k => semW (pw_or1 pt_sem) (h F σ H S Q k)
theorem ww_and {Φ : Bool → Own → Prop} (h : WT X B G O a fun c O' => if c = true then WW X B G O' (.BoolOp .And (b :: rest) pos) Φ else Φ false O') : WW X B G O (.BoolOp .And (a :: b :: rest) pos) Φ := fun F σ H S Q k =>
  semW (pw_and pt_sem pw_sem) (h F σ H S _ fun c F' H' O' S' e' p => by
    cases c with
    | true => exact p F' σ H' S' Q fun c2 F2 H2 O2 S2 e2 p2 => k c2 F2 H2 O2 S2 (e'.trans e2) p2
    | false => exact k false F' H' O' S' e' p)
theorem ww_or {Φ : Bool → Own → Prop} (h : WT X B G O a fun c O' => if c = true then Φ true O' else WW X B G O' (.BoolOp .Or (b :: rest) pos) Φ) : WW X B G O (.BoolOp .Or (a :: b :: rest) pos) Φ := fun F σ H S Q k =>
  semW (pw_or pt_sem pw_sem) (h F σ H S _ fun c F' H' O' S' e' p => by
    cases c with
    | false => exact p F' σ H' S' Q fun c2 F2 H2 O2 S2 e2 p2 => k c2 F2 H2 O2 S2 (e'.trans e2) p2
    | true => exact k true F' H' O' S' e' p)
theorem WW.t {Φ : Bool → Own → Prop} (h : WW X B G O e Φ) : WT X B G O e Φ := fun F σ H S Q k => ⟨fun pins s I => (h F σ H S Q k).run _ pins s I⟩
def PWv (X : Cx) (B : Bs) (G : Sl) (O : Own) (e : Expr) (b : Bool) : Prop := WW X B G O e fun b' O' => b' = b ∧ O' = O
theorem WW.mono {Φ Ψ : Bool → Own → Prop} (h : WW X B G O e Φ) (k : ∀ d O', Φ d O' → Ψ d O') : WW X B G O e Ψ := fun F σ H S Q q => h F σ H S Q fun v F' H' O' S' e' p => q v F' H' O' S' e' (k v O' p)
theorem pwv_and1 (h : PTv X B G O a ca) : PWv X B G O (.BoolOp .And [a] pos) ca := ww_and1 h
theorem pwv_or1 (h : PTv X B G O a ca) : PWv X B G O (.BoolOp .Or [a] pos) ca := ww_or1 h
theorem pwv_and (ha : PTv X B G O a ca) (hb : ca = true → PWv X B G O (.BoolOp .And (b :: rest) pos) cb) : PWv X B G O (.BoolOp .And (a :: b :: rest) pos) (ca && cb) := ww_and (wt_pv ha (by
  cases ca with
  | true => exact WW.mono (hb rfl) fun _ _ z => ⟨z.1, z.2⟩
  | false => exact ⟨rfl, rfl⟩))
theorem pwv_or (ha : PTv X B G O a ca) (hb : ca = false → PWv X B G O (.BoolOp .Or (b :: rest) pos) cb) : PWv X B G O (.BoolOp .Or (a :: b :: rest) pos) (ca || cb) := ww_or (wt_pv ha (by
  cases ca with
  | false => exact WW.mono (hb rfl) fun _ _ z => ⟨z.1, z.2⟩
  | true => exact ⟨rfl, rfl⟩))
theorem PWv.t (h : PWv X B G O e ca) : PTv X B G O e ca := WW.t h
/-- .. as values -/
theorem we_and1 {Φ : D → Own → Prop} {op : BoolOp} (h : WE X B G O a Φ) : WE X B G O (.BoolOp op [a] pos) Φ := fun F σ H S Q k => sem (pe_one pe_sem) (h F σ H S Q k)
theorem we_and {Φ : D → Own → Prop} (h : WE X B G O a fun d O' => ∃ c, d = .bl c ∧ if c = true then WE X B G O' (.BoolOp .And (b :: rest) pos) Φ else Φ (.bl false) O') : WE X B G O (.BoolOp .And (a :: b :: rest) pos) Φ := fun F σ H S Q k =>
  sem (pe_and pe_sem pe_sem) (h F σ H S _ fun v F' H' d O' S' e' r p => by
    obtain ⟨c, rfl, p⟩ := p
    cases r
    refine ⟨c, rfl, ?_⟩
    cases c with
    | true => exact p F' σ H' S' Q fun v2 F2 H2 d2 O2 S2 e2 r2 p2 => k v2 F2 H2 d2 O2 S2 (e'.trans e2) r2 p2
    | false => exact k _ F' H' _ O' S' e' (.bl false) p)
theorem we_not {Φ : D → Own → Prop} (h : WE X B G O a fun d O' => ∃ c, d = .bl c ∧ Φ (.bl (!c)) O') : WE X B G O (.UnaryOp .Not a pos) Φ := fun F σ H S Q k =>
  sem (pe_not pe_sem) (h F σ H S _ fun v F' H' d O' S' e' r p => by
    obtain ⟨c, rfl, p⟩ := p
    cases r
    exact ⟨c, rfl, k _ F' H' _ O' S' e' (.bl _) p⟩)
theorem pv_one {op : BoolOp} (h : PEv X B G O a d) : PEv X B G O (.BoolOp op [a] pos) d := we_and1 h
theorem pv_and (ha : PEv X B G O a (.bl ca)) (hb : ca = true → PEv X B G O (.BoolOp .And (b :: rest) pos) (.bl cb)) : PEv X B G O (.BoolOp .And (a :: b :: rest) pos) (.bl (ca && cb)) := we_and (we_pv ha ⟨ca, rfl, by
  cases ca with
  | true => exact WE.mono (hb rfl) fun _ _ z => ⟨z.1, z.2⟩
  | false => exact ⟨rfl, rfl⟩⟩)
theorem pv_not (ha : PEv X B G O a (.bl ca)) : PEv X B G O (.UnaryOp .Not a pos) (.bl (!ca)) := we_not (we_pv ha ⟨ca, rfl, rfl, rfl⟩)
/-- a if t else b -/
theorem we_if {t : Expr} {Φ : D → Own → Prop} (h : WT X B G O t fun c O' => if c = true then WE X B G O' a Φ else WE X B G O' b Φ) : WE X B G O (.IfExp t a b pos) Φ := fun F σ H S Q k =>
  sem (pe_ifExp pt_sem pe_sem pe_sem) (h F σ H S _ fun c F' H' O' S' e' p => by
    cases c with
    | true => exact p F' σ H' S' Q fun v2 F2 H2 d2 O2 S2 e2 r2 p2 => k v2 F2 H2 d2 O2 S2 (e'.trans e2) r2 p2
    | false => exact p F' σ H' S' Q fun v2 F2 H2 d2 O2 S2 e2 r2 p2 => k v2 F2 H2 d2 O2 S2 (e'.trans e2) r2 p2)
theorem pv_if {t : Expr} (ht : PTv X B G O t ca) (h1 : ca = true → PEv X B G O a d1) (h2 : ca = false → PEv X B G O b d2) : PEv X B G O (.IfExp t a b pos) (if ca = true then d1 else d2) := we_if (wt_pv ht (by
  cases ca with
  | true => exact h1 rfl
  | false => exact h2 rfl))
end
end Dl
set_option Elab.async false
set_option linter.all false
set_option maxRecDepth 100000
set_option maxHeartbeats 2000000
namespace Dl
open PySem PySem.Spec PyProof.Rows L2
/-- the items of a tuple or list, frozen or owned -/
inductive ItemsL (O : Own) : D → List D → Prop
  | lst {ds : List D} : ItemsL O (.lst ds) ds
  | own {a : Addr} {ds : List D} : (a, OV.lst ds) ∈ O → ItemsL O (.obj a) ds
inductive Items (O : Own) : D → List D → Prop
  | tup {ds : List D} : Items O (.tup ds) ds
  | lst {ds : List D} : Items O (.lst ds) ds
  | own {a : Addr} {ds : List D} : (a, OV.lst ds) ∈ O → Items O (.obj a) ds
section
variable {K : PySem.W.Frag} {B : Bs} {G : Sl} {O : Own} {F H : Hp} {σ : L2.St}
theorem itemsL_ok (S : Sat K B G O F σ H) {v : V} {d : D} {ds : List D} (r : Rep K F v d) (it : ItemsL O d ds) : ∃ a vs, v = .ref a ∧ Reps K F vs ds ∧ SqL K H a vs := by
  cases it with
  | lst =>
    cases r with
    | lst h rs => exact ⟨_, _, rfl, rs, S.ex.seq h⟩
  | own hm =>
    cases r with
    | obj a =>
      obtain ⟨_, vs, h1, h2⟩ := S.own _ hm
      exact ⟨_, vs, rfl, h2, SqL.of h1⟩
theorem items_ok (S : Sat K B G O F σ H) {v : V} {d : D} {ds : List D} (r : Rep K F v d) (it : Items O d ds) : ∃ a vs, v = .ref a ∧ Reps K F vs ds ∧ (SqL K H a vs ∨ SqT K H a vs) := by
  cases it with
  | tup =>
    cases r with
    | tup h rs => exact ⟨_, _, rfl, rs, .inr (sqT_mono S.ex h)⟩
  | lst =>
    obtain ⟨a, vs, h1, h2, h3⟩ := itemsL_ok S r .lst
    exact ⟨a, vs, h1, h2, .inl h3⟩
  | own hm =>
    obtain ⟨a, vs, h1, h2, h3⟩ := itemsL_ok S r (.own hm)
    exact ⟨a, vs, h1, h2, .inl h3⟩
theorem atI_rep {vs : List V} {ds : List D} {i : Int} {d : D} (rs : Reps K F vs ds) (h : atI ds i = some d) : ∃ v, atI vs i = some v ∧ Rep K F v d := by
  unfold atI at h ⊢
  rw [rs.length]
  cases e : ixN ds.length i with
  | none => rw [e] at h; cases h
  | some j =>
    rw [e] at h
    exact rs.get h
end
section
variable {M : Mach} {X : Cx} {N : List Str} {sc : Scope} {vb lb gb : Str → Bool} {B : Bs} {G : Sl} {O : Own} {e a b : Expr} {es : List Expr} {pos : Pos} {d d1 d2 : D} {ds : List D} {i : Int}
def dIx : DR2 := fun x y O Φ => ∃ ds i d, Items O x ds ∧ y = .int i ∧ atI ds i = some d ∧ Φ d O
theorem dop_ix : DOp X (rIx X.K) dIx := fun B G O F σ H x y dx dy Φ S rx ry h Q k => by
  obtain ⟨ds, i, d, it, rfl, ha, p⟩ := h
  cases ry
  obtain ⟨a, vs, rfl, rs, hq⟩ := items_ok S rx it
  obtain ⟨v, hv, rv⟩ := atI_rep rs ha
  rcases hq with hq | hq
  · exact .inl ⟨a, vs, i, v, rfl, rfl, hq, hv, k v F H d O S (Same.refl _) rv p⟩
  · exact .inr (.inl ⟨a, vs, i, v, rfl, rfl, hq, hv, k v F H d O S (Same.refl _) rv p⟩)
theorem we_ix {Φ : D → Own → Prop} (h : WE X B G O a fun d1 O1 => WE X B G O1 b fun d2 O2 => dIx d1 d2 O2 Φ) (hs : PlainIx b := by intro _ _; rfl) : WE X B G O (.Subscript a b pos) Φ :=
  fun F σ H S Q k => sem (pe_ix ix_seq pe_sem pe_sem hs) (run2 dop_ix h S k)
theorem pv_ix (ha : PEv X B G O a d1) (hb : PEv X B G O b (.int i)) (it : Items O d1 ds) (hx : atI ds i = some d) (hs : PlainIx b := by intro _ _; rfl) : PEv X B G O (.Subscript a b pos) d :=
  we_ix (we_pv ha (we_pv hb ⟨ds, i, d, it, rfl, hx, rfl, rfl⟩)) hs
theorem len_line {n : Nat} (h : n ≤ 1000000) : n ≤ sizeLine := Nat.le_trans h (by rw [sizeLine_eq]; decide)
theorem we_tup {j : Nat} {Φ : D → Own → Prop} (h : WA X B G O es fun ds O' => ds.length ≤ 1000000 ∧ Φ (.tup ds) O') : WE X B G O (.Tuple es j pos) Φ := fun F σ H S Q k =>
  sem (pe_tup pa_sem) (h F σ H S _ fun vs F1 H1 ds O1 S1 e1 r1 p1 => ⟨by rw [r1.length]; exact len_line p1.1, fun p hp => by
    have S2 := S1.alloc hp (.tup vs)
    have e2 : Same F1 (upd F1 p (.tup vs)) := same_upd (S1.fresh hp).1
    exact k _ _ _ _ _ S2 (e1.trans e2) (.tup (SqT.of upd_same) (r1.mono e2)) p1.2⟩)
theorem pv_tup {j : Nat} (h : PAv X B G O es ds) (hl : ds.length ≤ 1000000 := by exact Nat.le_of_ble_eq_true rfl) : PEv X B G O (.Tuple es j pos) (.tup ds) := we_tup (wa_pv h ⟨hl, rfl, rfl⟩)
def WN (X : Cx) (B : Bs) (G : Sl) (O : Own) (e : Expr) (Φ : List D → Own → Prop) : Prop := ∀ F σ H, Sat X.K B G O F σ H → ∀ Q : VK,
  (∀ p ds F' H' O', Sat X.K B G ((p, OV.lst ds) :: O') F' σ H' → Same F F' → Φ ds O' → Q (.ref p) H') → tSem X e σ H Q
def PNv (X : Cx) (B : Bs) (G : Sl) (O : Own) (e : Expr) (ds : List D) : Prop := WN X B G O e fun ds' O' => ds' = ds ∧ O' = O
theorem WN.mono {Φ Ψ : List D → Own → Prop} (h : WN X B G O e Φ) (k : ∀ d O', Φ d O' → Ψ d O') : WN X B G O e Ψ := fun F σ H S Q q => h F σ H S Q fun p ds F' H' O' S' e' z => q p ds F' H' O' S' e' (k _ _ z)
theorem wn_pv {Φ : List D → Own → Prop} (h : PNv X B G O e ds) (q : Φ ds O) : WN X B G O e Φ := WN.mono h fun _ _ z => by rw [z.1, z.2]; exact q
/-- .. that will not change -/
theorem we_frz {Φ : D → Own → Prop} (h : WN X B G O e fun ds O' => Φ (.lst ds) O') : WE X B G O e Φ := fun F σ H S Q k => h F σ H S Q fun p ds F1 H1 O1 S1 e1 p1 => by
  obtain ⟨vs, hv, r, e2, S2⟩ := S1.freeze .z
  exact k _ _ _ _ _ S2 (e1.trans e2) (.lst (SqL.of upd_same) (r.mono e2)) p1
theorem pv_frz (h : PNv X B G O e ds) : PEv X B G O e (.lst ds) := we_frz (wn_pv h ⟨rfl, rfl⟩)
/-- .. that is owned -/
theorem we_own {Φ : D → Own → Prop} (h : WN X B G O e fun ds O' => ∀ p, Φ (.obj p) ((p, .lst ds) :: O')) : WE X B G O e Φ := fun F σ H S Q k => h F σ H S Q fun p ds F1 H1 O1 S1 e1 p1 => k _ _ _ _ _ S1 e1 (.obj p) (p1 p)
theorem wn_lst {Φ : List D → Own → Prop} (h : WA X B G O es fun ds O' => ds.length ≤ 1000000 ∧ Φ ds O') : WN X B G O (.List es pos) Φ := fun F σ H S Q k =>
  sem (pe_lst pa_sem) (h F σ H S _ fun vs F1 H1 ds O1 S1 e1 r1 p1 => ⟨by rw [r1.length]; exact len_line p1.1, fun p hp => k p ds F1 _ O1 (S1.allocOwn hp (ov := .lst ds) ⟨vs, upd_same, r1⟩) e1 p1.2⟩)
theorem pn_lst (h : PAv X B G O es ds) (hl : ds.length ≤ 1000000 := by exact Nat.le_of_ble_eq_true rfl) : PNv X B G O (.List es pos) ds := wn_lst (wa_pv h ⟨hl, rfl, rfl⟩)
def rCatL (K : PySem.W.Frag) : R2 := fun x y H Q => ∃ l b xs zs, x = .ref l ∧ y = .ref b ∧ SqL K H l xs ∧ SqL K H b zs ∧ xs.length + zs.length ≤ sizeLine ∧ ∀ p, H p = none → Q (.ref p) (upd H p (.lst (xs ++ zs)))
theorem op_catL : OpR X (binaryOp .Add) (rCatL X.K) := by
  intro pins s σ H x y v u Q I rx ry h
  obtain ⟨l, b, xs, zs, rfl, rfl, hL, hB, hz, q⟩ := h
  cases rx
  cases ry
  obtain ⟨its, r, pl, _⟩ := I.list hL
  obtain ⟨its2, r2, pl2, _⟩ := I.list hB
  have hl := r.length
  have hl2 := r2.length
  obtain ⟨⟨cls, dd, data, sl⟩, ho, hc, n, hd⟩ := id pl.isList
  obtain ⟨⟨cls2, dd2, data2, sl2⟩, ho2, hc2, n2, hd2⟩ := id pl2.isList
  simp only at hc hd hc2 hd2
  subst hc hd hc2 hd2
  have e : its.toArray ++ its2.toArray = (its ++ its2).toArray := by simp
  refine concat_meets ⟨_, ho, rfl⟩ ⟨_, ho2, rfl⟩ noFill_list_add seq_list_add PySem.F.slot_list_add PySem.F.entry_list_add (PySem.F.args_list_add_2 _ _)
    (list_addW l b its.toArray its2.toArray n n2 dd dd2 sl sl2 (by rw [List.size_toArray, List.size_toArray]; omega)) ⟨ho, ho2, ?_⟩
  rw [e]
  exact ⟨.ref _, _, I.lnew (t' := s.toks) (r.append r2) (by rw [List.length_append]; omega), rfl, q _ I.fresh⟩
theorem wn_cat {Φ : List D → Own → Prop} (h : WE X B G O a fun d1 O1 => WE X B G O1 b fun d2 O2 => ∃ xs ys, ItemsL O2 d1 xs ∧ ItemsL O2 d2 ys ∧ xs.length + ys.length ≤ 1000000 ∧ Φ (xs ++ ys) O2) : WN X B G O (.BinOp a .Add b pos) Φ := fun F σ H S Q k =>
  sem (pe_op op_catL pe_sem pe_sem) (h F σ H S _ fun v F1 H1 d1 O1 S1 e1 r1 p1 => p1 F1 σ H1 S1 _ fun u F2 H2 d2 O2 S2 e2 r2 p2 => by
    obtain ⟨xs, ys, i1, i2, hl, p2⟩ := p2
    obtain ⟨l, vs, rfl, rs1, q1⟩ := itemsL_ok S2 (r1.mono e2) i1
    obtain ⟨m, ws, rfl, rs2, q2⟩ := itemsL_ok S2 r2 i2
    exact ⟨l, m, vs, ws, rfl, rfl, q1, q2, by rw [rs1.length, rs2.length]; exact len_line hl, fun p hp => k p _ F2 _ O2 (S2.allocOwn hp (ov := .lst (xs ++ ys)) ⟨_, upd_same, rs1.append rs2⟩) (e1.trans e2) p2⟩)
theorem pn_cat {xs ys : List D} (ha : PEv X B G O a d1) (hb : PEv X B G O b d2) (i1 : ItemsL O d1 xs) (i2 : ItemsL O d2 ys) (hl : xs.length + ys.length ≤ 1000000) : PNv X B G O (.BinOp a .Add b pos) (xs ++ ys) :=
  wn_cat (we_pv ha (we_pv hb ⟨xs, ys, i1, i2, hl, rfl, rfl⟩))
def dCatT : DR2 := fun x y O Φ => ∃ xs ys, x = .tup xs ∧ y = .tup ys ∧ xs.length + ys.length ≤ 1000000 ∧ Φ (.tup (xs ++ ys)) O
theorem Reps.nil_iff {K : PySem.W.Frag} {F : Hp} {vs : List V} (r : Reps K F vs ds) : vs = [] ↔ ds = [] := by
  cases r with
  | nil => simp
  | cons _ _ => simp
theorem dop_catT : DOp X (rCatA X.K) dCatT := fun B G O F σ H x y dx dy Φ S rx ry h Q k => by
  obtain ⟨xs, ys, rfl, rfl, hl, p⟩ := h
  cases rx with
  | tup q1 r1 =>
    cases ry with
    | tup q2 r2 =>
      rename_i a vs b ws
      refine ⟨a, b, vs, ws, rfl, rfl, sqT_mono S.ex q1, sqT_mono S.ex q2, by rw [r1.length, r2.length]; exact len_line hl, fun z => ?_, fun _ z => ?_, fun _ _ p' hp => ?_⟩
      · have e := r1.nil_iff.mp z
        subst e
        exact k _ F H _ O S (Same.refl _) (.tup q2 r2) p
      · have e := r2.nil_iff.mp z
        subst e
        rw [List.append_nil] at p
        exact k _ F H _ O S (Same.refl _) (.tup q1 r1) p
      · have e2 : Same F (upd F p' (.tup (vs ++ ws))) := same_upd (S.fresh hp).1
        exact k _ _ _ _ _ (S.alloc hp (.tup (vs ++ ws))) e2 (.tup (SqT.of upd_same) ((r1.append r2).mono e2)) p
theorem we_catT {Φ : D → Own → Prop} (h : WE X B G O a fun d1 O1 => WE X B G O1 b fun d2 O2 => dCatT d1 d2 O2 Φ) : WE X B G O (.BinOp a .Add b pos) Φ := we_op op_catA dop_catT h
theorem pv_catT {xs ys : List D} (ha : PEv X B G O a (.tup xs)) (hb : PEv X B G O b (.tup ys)) (hl : xs.length + ys.length ≤ 1000000) : PEv X B G O (.BinOp a .Add b pos) (.tup (xs ++ ys)) :=
  we_catT (we_pv ha (we_pv hb ⟨xs, ys, rfl, rfl, hl, rfl, rfl⟩))
/-- texts joined -/
theorem pv_adds {x y : Str} (ha : PEv X B G O a (.str x)) (hb : PEv X B G O b (.str y)) (hl : x.length + y.length ≤ sizeLine) : PEv X B G O (.BinOp a .Add b pos) (.str (x ++ y)) :=
  pv_op (R := fun dx dy O Φ => ∃ i j, dx = .str i ∧ dy = .str j ∧ i.length + j.length ≤ sizeLine ∧ Φ (.str (i ++ j)) O) op_add_str (fun B G O F σ H x y dx dy Φ S rx ry h Q k => by
    obtain ⟨i, j, rfl, rfl, hl, p⟩ := h
    cases rx
    cases ry
    exact ⟨i, j, rfl, rfl, hl, k _ F H _ O S (Same.refl _) (.str _) p⟩) ha hb ⟨x, y, rfl, rfl, hl, rfl, rfl⟩
structure tSemO (X : Cx) (e : Option Expr) (σ : L2.St) (H : Hp) (Q : Option Int → Hp → Prop) : Prop where
  run : ∀ (pins : List (Addr × Obj)) (s : Shared), Inv X pins σ H s → wpAny (model X.prog X.w) X.A (evalPart e X.env) (fun u s' => ∃ o H', Inv X pins σ H' s' ∧ IsPart u o ∧ Q o H') X.xe s
theorem po_sem {e : Option Expr} : PO X e (tSemO X e) := ⟨fun pins s _ _ _ I h => h.run pins s I⟩
/-- a part of a slice -/
inductive PartV (X : Cx) (B : Bs) (G : Sl) (O : Own) : Option Expr → Option Int → Prop
  | none : PartV X B G O none none
  | some {e : Expr} {i : Int} : PEv X B G O e (.int i) → PartV X B G O (some e) (some i)
theorem PartV.run {e : Option Expr} {o : Option Int} (h : PartV X B G O e o) {F : Hp} {σ : L2.St} {H : Hp} (S : Sat X.K B G O F σ H) {Q : Option Int → Hp → Prop} (k : ∀ F' H', Sat X.K B G O F' σ H' → Same F F' → Q o H') : tSemO X e σ H Q := by
  cases h with
  | none => exact ⟨fun pins s I => po_none.run pins s σ H Q I (k F H S (Same.refl _))⟩
  | some h => exact ⟨fun pins s I => (po_some pe_sem).run pins s σ H Q I (h F σ H S _ fun v F' H' d O' S' e' r p => by
      obtain ⟨rfl, rfl⟩ := p
      cases r
      exact ⟨_, rfl, k F' H' S' e'⟩)⟩
def cutD (xs : List D) (lo hi : Option Int) : List D := (xs.drop (HT.sIx xs.length 0 lo)).take (HT.sIx xs.length xs.length hi - HT.sIx xs.length 0 lo)
theorem cut_rep {K : PySem.W.Frag} {F : Hp} {vs : List V} (r : Reps K F vs ds) (lo hi : Option Int) : Reps K F (cutV vs lo hi) (cutD ds lo hi) := by
  unfold cutV cutD
  rw [r.length]
  exact (r.drop _).take _
theorem pn_slice {lo hi : Option Expr} {l h : Option Int} {p2 : Pos} (ha : PEv X B G O a d1) (it : ItemsL O d1 ds) (hl : PartV X B G O lo l) (hh : PartV X B G O hi h) : PNv X B G O (.Subscript a (.Slice lo hi none p2) pos) (cutD ds l h) := fun F σ H S Q k =>
  sem (pe_slice sl_list pe_sem po_sem po_sem) (ha F σ H S _ fun v F1 H1 d O1 S1 e1 r1 p1 => by
    obtain ⟨rfl, rfl⟩ := p1
    refine hl.run S1 fun F2 H2 S2 e2 => hh.run S2 fun F3 H3 S3 e3 => ?_
    obtain ⟨a, vs, rfl, rs, q⟩ := itemsL_ok S3 ((r1.mono e2).mono e3) it
    exact ⟨a, vs, rfl, q, fun p hp => k p _ F3 _ _ (S3.allocOwn hp (ov := .lst (cutD ds l h)) ⟨_, upd_same, cut_rep rs l h⟩) ((e1.trans e2).trans e3) ⟨rfl, rfl⟩⟩)
theorem pv_sliceT {lo hi : Option Expr} {l h : Option Int} {p2 : Pos} (ha : PEv X B G O a (.tup ds)) (hl : PartV X B G O lo l) (hh : PartV X B G O hi h) : PEv X B G O (.Subscript a (.Slice lo hi none p2) pos) (.tup (cutD ds l h)) := fun F σ H S Q k =>
  sem (pe_slice sl_tupA pe_sem po_sem po_sem) (ha F σ H S _ fun v F1 H1 d O1 S1 e1 r1 p1 => by
    obtain ⟨rfl, rfl⟩ := p1
    refine hl.run S1 fun F2 H2 S2 e2 => hh.run S2 fun F3 H3 S3 e3 => ?_
    cases r1 with
    | tup q rs =>
      rename_i a vs
      have rs3 := (rs.mono e2).mono e3
      have q3 := sqT_mono e3 (sqT_mono e2 q)
      refine ⟨a, vs, rfl, sqT_mono S3.ex q3, fun z => ?_, fun _ p hp => ?_⟩
      · have e : cutD ds l h = ds := by
          unfold cutD
          rw [← rs.length, z.1, z.2]
          show List.take (vs.length - 0) ds = ds
          rw [Nat.sub_zero, rs.length]
          exact List.take_length
        rw [e] at k
        exact k _ F3 H3 _ _ S3 ((e1.trans e2).trans e3) (.tup q3 rs3) ⟨rfl, rfl⟩
      · have e4 : Same F3 (upd F3 p (.tup (cutV vs l h))) := same_upd (S3.fresh hp).1
        exact k _ _ _ _ _ (S3.alloc hp _) (((e1.trans e2).trans e3).trans e4) (.tup (SqT.of upd_same) ((cut_rep rs3 l h).mono e4)) ⟨rfl, rfl⟩)
/-- no star -/
abbrev Plain1 (e : Expr) : Prop := ∀ (es : List Expr) (env : Env), starEach (e :: es) env = (false, eval e env) :: starEach es env
theorem plain_any {pos : Pos} (sb : Plain1 b) : (backTo pos (starEach [b] X.env)).any (·.1) = false := by rw [sb [] X.env] <;> rfl
abbrev DRC := List D → Own → (D → Own → Prop) → Prop
def DCall (X : Cx) (r : List V → Hp → VK → Prop) (R : DRC) : Prop := ∀ (B : Bs) (G : Sl) (O : Own) (F : Hp) (σ : L2.St) (H : Hp) (xs : List V) (ds : List D) (Φ : D → Own → Prop), Sat X.K B G O F σ H → Reps X.K F xs ds → R ds O Φ →
  ∀ Q : VK, (∀ v F' H' d O', Sat X.K B G O' F' σ H' → Same F F' → Rep X.K F' v d → Φ d O' → Q v H') → r xs H Q
def DCallN (X : Cx) (r : List V → Hp → VK → Prop) (R : List D → Own → (List D → Own → Prop) → Prop) : Prop := ∀ (B : Bs) (G : Sl) (O : Own) (F : Hp) (σ : L2.St) (H : Hp) (xs : List V) (ds : List D) (Φ : List D → Own → Prop), Sat X.K B G O F σ H → Reps X.K F xs ds → R ds O Φ →
  ∀ Q : VK, (∀ p ds F' H' O', Sat X.K B G ((p, OV.lst ds) :: O') F' σ H' → Same F F' → Φ ds O' → Q (.ref p) H') → r xs H Q
theorem we_callB {x : Str} {id : String} {r : List V → Hp → VK → Prop} {R : DRC} {p : Pos} {Φ : D → Own → Prop} (C : Cxt M X N sc vb lb gb) (hc : CallR X (.builtin id) r) (hd : DCall X r R) (hm : M.mg x = none) (hg : gb x = true) (hv : bootBuiltins x = some (.builtin id))
    (h : WA X B G O (e :: es) fun ds O' => R ds O' Φ) (hn : x ≠ "__name__" := by decide) (he : starEach (e :: es) X.env = (false, eval e X.env) :: starEach es X.env := by exact star_cons rfl) (hpl : (backTo pos (starEach es X.env)).any (·.1) = false := by rfl) : WE X B G O (.Call (.Name x p) (e :: es) [] pos) Φ := fun F σ H S Q k =>
  sem (pe_callB hc (C.gl x hg).1 (by rw [C.mg]; exact hm) hv pa_sem hn (C.gl x hg).2 he hpl) (h F σ H S _ fun vs F1 H1 ds O1 S1 e1 r1 p1 => hd B G O1 F1 σ H1 vs ds Φ S1 r1 p1 Q fun v F2 H2 d O2 S2 e2 r2 p2 => k v F2 H2 d O2 S2 (e1.trans e2) r2 p2)
theorem we_callTy {x : Str} {T : String} {r : List V → Hp → VK → Prop} {R : DRC} {p : Pos} {Φ : D → Own → Prop} (C : Cxt M X N sc vb lb gb) (hc : CallR X (.type T) r) (hd : DCall X r R) (hm : M.mg x = none) (hg : gb x = true) (hv : bootBuiltins x = some (.type T))
    (h : WA X B G O (e :: es) fun ds O' => R ds O' Φ) (hn : x ≠ "__name__" := by decide) (he : starEach (e :: es) X.env = (false, eval e X.env) :: starEach es X.env := by exact star_cons rfl) (hpl : (backTo pos (starEach es X.env)).any (·.1) = false := by rfl) : WE X B G O (.Call (.Name x p) (e :: es) [] pos) Φ := fun F σ H S Q k =>
  sem (pe_callTy hc (C.gl x hg).1 (by rw [C.mg]; exact hm) hv pa_sem hn (C.gl x hg).2 he hpl) (h F σ H S _ fun vs F1 H1 ds O1 S1 e1 r1 p1 => hd B G O1 F1 σ H1 vs ds Φ S1 r1 p1 Q fun v F2 H2 d O2 S2 e2 r2 p2 => k v F2 H2 d O2 S2 (e1.trans e2) r2 p2)
theorem wn_callB {x : Str} {id : String} {r : List V → Hp → VK → Prop} {R : List D → Own → (List D → Own → Prop) → Prop} {p : Pos} {Φ : List D → Own → Prop} (C : Cxt M X N sc vb lb gb) (hc : CallR X (.builtin id) r) (hd : DCallN X r R) (hm : M.mg x = none) (hg : gb x = true) (hv : bootBuiltins x = some (.builtin id))
    (h : WA X B G O (e :: es) fun ds O' => R ds O' Φ) (hn : x ≠ "__name__" := by decide) (he : starEach (e :: es) X.env = (false, eval e X.env) :: starEach es X.env := by exact star_cons rfl) (hpl : (backTo pos (starEach es X.env)).any (·.1) = false := by rfl) : WN X B G O (.Call (.Name x p) (e :: es) [] pos) Φ := fun F σ H S Q k =>
  sem (pe_callB hc (C.gl x hg).1 (by rw [C.mg]; exact hm) hv pa_sem hn (C.gl x hg).2 he hpl) (h F σ H S _ fun vs F1 H1 ds O1 S1 e1 r1 p1 => hd B G O1 F1 σ H1 vs ds Φ S1 r1 p1 Q fun p ds' F2 H2 O2 S2 e2 p2 => k p ds' F2 H2 O2 S2 (e1.trans e2) p2)
theorem wn_callTy {x : Str} {T : String} {r : List V → Hp → VK → Prop} {R : List D → Own → (List D → Own → Prop) → Prop} {p : Pos} {Φ : List D → Own → Prop} (C : Cxt M X N sc vb lb gb) (hc : CallR X (.type T) r) (hd : DCallN X r R) (hm : M.mg x = none) (hg : gb x = true) (hv : bootBuiltins x = some (.type T))
    (h : WA X B G O (e :: es) fun ds O' => R ds O' Φ) (hn : x ≠ "__name__" := by decide) (he : starEach (e :: es) X.env = (false, eval e X.env) :: starEach es X.env := by exact star_cons rfl) (hpl : (backTo pos (starEach es X.env)).any (·.1) = false := by rfl) : WN X B G O (.Call (.Name x p) (e :: es) [] pos) Φ := fun F σ H S Q k =>
  sem (pe_callTy hc (C.gl x hg).1 (by rw [C.mg]; exact hm) hv pa_sem hn (C.gl x hg).2 he hpl) (h F σ H S _ fun vs F1 H1 ds O1 S1 e1 r1 p1 => hd B G O1 F1 σ H1 vs ds Φ S1 r1 p1 Q fun p ds' F2 H2 O2 S2 e2 p2 => k p ds' F2 H2 O2 S2 (e1.trans e2) p2)
variable (C : Cxt M X N sc vb lb gb) {p : Pos}
theorem reps1 {K : PySem.W.Frag} {F : Hp} {xs : List V} {d : D} (r : Reps K F xs [d]) : ∃ v, xs = [v] ∧ Rep K F v d := by
  cases r with
  | cons r t => cases t; exact ⟨_, rfl, r⟩
theorem reps2 {K : PySem.W.Frag} {F : Hp} {xs : List V} {d d2 : D} (r : Reps K F xs [d, d2]) : ∃ v w, xs = [v, w] ∧ Rep K F v d ∧ Rep K F w d2 := by
  cases r with
  | cons r t =>
    cases t with
    | cons r2 t => cases t; exact ⟨_, _, rfl, r, r2⟩
include C
theorem pv_len (ha : PEv X B G O a d1) (it : Items O d1 ds) (hm : M.mg "len" = none) (hg : gb "len" = true) (sa : Plain1 a := by exact fun _ _ => star_cons rfl) : PEv X B G O (.Call (.Name "len" p) [a] [] pos) (.int ds.length) :=
  we_callB (R := fun xs O Φ => ∃ d ds, xs = [d] ∧ Items O d ds ∧ Φ (.int ds.length) O) C call_len_seq (fun B G O F σ H xs ds Φ S r h Q k => by
    obtain ⟨d, ds, rfl, it, q⟩ := h
    obtain ⟨v, rfl, rv⟩ := reps1 r
    obtain ⟨a, vs, rfl, rs, hq⟩ := items_ok S rv it
    refine ⟨a, vs, rfl, hq, ?_⟩
    rw [rs.length]
    exact k _ F H _ O S (Same.refl _) (.int _) q) hm hg PySem.boot_len (wa_cons (we_pv ha (wa_nil ⟨d1, ds, rfl, it, rfl, rfl⟩)) (sa _ _)) (he := sa _ _)
theorem pv_sum {ns : List Int} (ha : PEv X B G O a d1) (it : ItemsL O d1 (ns.map D.int)) (hm : M.mg "sum" = none) (hg : gb "sum" = true) (sa : Plain1 a := by exact fun _ _ => star_cons rfl) : PEv X B G O (.Call (.Name "sum" p) [a] [] pos) (.int ns.sum) :=
  we_callB (R := fun xs O Φ => ∃ d ns, xs = [d] ∧ ItemsL O d (ns.map D.int) ∧ Φ (.int ns.sum) O) C (cr_sum C.calm) (fun B G O F σ H xs ds Φ S r h Q k => by
    obtain ⟨d, ns, rfl, it, q⟩ := h
    obtain ⟨v, rfl, rv⟩ := reps1 r
    obtain ⟨a, vs, rfl, rs, hq⟩ := itemsL_ok S rv it
    rw [reps_ints rs] at hq
    exact ⟨a, ns, rfl, hq, k _ F H _ O S (Same.refl _) (.int _) q⟩) hm hg (by decide +kernel) (wa_cons (we_pv ha (wa_nil ⟨d1, ns, rfl, it, rfl, rfl⟩)) (sa _ _)) (he := sa _ _)
theorem pv_all {ns : List Bool} (ha : PEv X B G O a d1) (it : ItemsL O d1 (ns.map D.bl)) (hm : M.mg "all" = none) (hg : gb "all" = true) (sa : Plain1 a := by exact fun _ _ => star_cons rfl) : PEv X B G O (.Call (.Name "all" p) [a] [] pos) (.bl (ns.all id)) :=
  we_callB (R := fun xs O Φ => ∃ d ns, xs = [d] ∧ ItemsL O d (ns.map D.bl) ∧ Φ (.bl (ns.all id)) O) C (cr_all C.calm) (fun B G O F σ H xs ds Φ S r h Q k => by
    obtain ⟨d, ns, rfl, it, q⟩ := h
    obtain ⟨v, rfl, rv⟩ := reps1 r
    obtain ⟨a, vs, rfl, rs, hq⟩ := itemsL_ok S rv it
    rw [reps_bls rs] at hq
    exact ⟨a, ns, rfl, hq, k _ F H _ O S (Same.refl _) (.bl _) q⟩) hm hg (by decide +kernel) (wa_cons (we_pv ha (wa_nil ⟨d1, ns, rfl, it, rfl, rfl⟩)) (sa _ _)) (he := sa _ _)
theorem pv_min2 {j : Int} (ha : PEv X B G O a (.int i)) (hb : PEv X B G O b (.int j)) (hm : M.mg "min" = none) (hg : gb "min" = true) (sa : Plain1 a := by exact fun _ _ => star_cons rfl) (sb : Plain1 b := by exact fun _ _ => star_cons rfl) : PEv X B G O (.Call (.Name "min" p) [a, b] [] pos) (.int (if j < i then j else i)) :=
  we_callB (R := fun xs O Φ => ∃ i j, xs = [.int i, .int j] ∧ Φ (.int (if j < i then j else i)) O) C (call_min2 C.calm) (fun B G O F σ H xs ds Φ S r h Q k => by
    obtain ⟨i, j, rfl, q⟩ := h
    obtain ⟨v, w, rfl, rv, rw⟩ := reps2 r
    cases rv
    cases rw
    exact ⟨i, j, rfl, k _ F H _ O S (Same.refl _) (.int _) q⟩) hm hg (by decide +kernel) (wa_cons (we_pv ha (wa_cons (we_pv hb (wa_nil ⟨i, j, rfl, rfl, rfl⟩)) (sb _ _))) (sa _ _)) (he := sa _ _) (hpl := plain_any sb)
theorem pv_max2 {j : Int} (ha : PEv X B G O a (.int i)) (hb : PEv X B G O b (.int j)) (hm : M.mg "max" = none) (hg : gb "max" = true) (sa : Plain1 a := by exact fun _ _ => star_cons rfl) (sb : Plain1 b := by exact fun _ _ => star_cons rfl) : PEv X B G O (.Call (.Name "max" p) [a, b] [] pos) (.int (if j > i then j else i)) :=
  we_callB (R := fun xs O Φ => ∃ i j, xs = [.int i, .int j] ∧ Φ (.int (if j > i then j else i)) O) C (call_max2 C.calm) (fun B G O F σ H xs ds Φ S r h Q k => by
    obtain ⟨i, j, rfl, q⟩ := h
    obtain ⟨v, w, rfl, rv, rw⟩ := reps2 r
    cases rv
    cases rw
    exact ⟨i, j, rfl, k _ F H _ O S (Same.refl _) (.int _) q⟩) hm hg (by decide +kernel) (wa_cons (we_pv ha (wa_cons (we_pv hb (wa_nil ⟨i, j, rfl, rfl, rfl⟩)) (sb _ _))) (sa _ _)) (he := sa _ _) (hpl := plain_any sb)
/-- tuple(xs) -/
theorem pv_tuple (ha : PEv X B G O a d1) (it : Items O d1 ds) (hm : M.mg "tuple" = none) (hg : gb "tuple" = true) (sa : Plain1 a := by exact fun _ _ => star_cons rfl) : PEv X B G O (.Call (.Name "tuple" p) [a] [] pos) (.tup ds) :=
  we_callTy (R := fun xs O Φ => ∃ d ds, xs = [d] ∧ Items O d ds ∧ Φ (.tup ds) O) C call_tuple_of (fun B G O F σ H xs ds Φ S r h Q k => by
    obtain ⟨d, ds, rfl, it, q⟩ := h
    obtain ⟨v, rfl, rv⟩ := reps1 r
    have lst : ∀ {d : D} {ds : List D}, Rep X.K F v d → ItemsL O d ds → Φ (.tup ds) O → (fun xs H Q => ∃ p ys, xs = [V.ref p] ∧ ((SqL X.K H p ys ∧ ∀ l, H l = none → Q (.ref l) (upd H l (.tup ys))) ∨ (SqT X.K H p ys ∧ Q (.ref p) H))) [v] H Q := fun {d ds} rv it q => by
      obtain ⟨a, vs, rfl, rs, hq⟩ := itemsL_ok S rv it
      refine ⟨a, vs, rfl, .inl ⟨hq, fun l hl => ?_⟩⟩
      have e2 : Same F (upd F l (.tup vs)) := same_upd (S.fresh hl).1
      exact k _ _ _ _ _ (S.alloc hl _) e2 (.tup (SqT.of upd_same) (rs.mono e2)) q
    cases it with
    | tup =>
      cases rv with
      | tup h rs => exact ⟨_, _, rfl, .inr ⟨sqT_mono S.ex h, k _ F H _ O S (Same.refl _) (.tup h rs) q⟩⟩
    | lst => exact lst rv .lst q
    | own hm => exact lst rv (.own hm) q) hm hg (by decide +kernel) (wa_cons (we_pv ha (wa_nil ⟨d1, ds, rfl, it, rfl, rfl⟩)) (sa _ _)) (he := sa _ _)
end
end Dl
set_option Elab.async false
set_option linter.all false
set_option maxRecDepth 100000
set_option maxHeartbeats 2000000
namespace Dl
open PySem PySem.Spec PyProof.Rows L2
theorem keys_app {O1 O2 : Own} : keys (O1 ++ O2) = keys O1 ++ keys O2 := List.map_append
section
variable {K : PySem.W.Frag} {B : Bs} {G G' : Sl} {O1 O2 O1' : Own} {F F' H H' : Hp} {σ σ' : L2.St}
/-- what a part of the state does leaves the rest -/
theorem Sat.frame (S : Sat K B G (O1 ++ O2) F σ H) (S' : Sat K ⟨F, H, keys O1⟩ G' O1' F' σ' H') : Sat K B G (O1' ++ O2) F' σ H' := by
  have nd := S.nd
  rw [keys_app] at nd
  obtain ⟨n1, n2, n3⟩ := List.nodup_append.mp nd
  have fr : ∀ p ∈ O2, H' p.1 = H p.1 ∧ F' p.1 = none ∧ p.1 ∉ keys O1' := fun p hp => by
    have hm : p ∈ O1 ++ O2 := List.mem_append_right _ hp
    obtain ⟨o, ho⟩ := S.lt hm
    obtain ⟨h1, h2, h3⟩ := S'.bH p.1 o ho (S.own p hm).1 (fun z => n3 _ z _ (mem_keys hp) rfl)
    exact ⟨h1.trans ho.symm, h2, h3⟩
  refine ⟨S.len, fun i d e => ?_, S'.ex, ?_, fun p hp => ?_, S.bF.trans S'.bF, fun a o e1 e2 e3 => ?_⟩
  · obtain ⟨v, h1, h2⟩ := S.slot i d e
    exact ⟨v, h1, h2.mono S'.bF⟩
  · rw [keys_app]
    refine List.nodup_append.mpr ⟨S'.nd, n2, fun a ha b hb e => ?_⟩
    obtain ⟨ov, hm⟩ := keys_mem hb
    exact (fr _ hm).2.2 (e ▸ ha)
  · rcases List.mem_append.mp hp with hp | hp
    · exact S'.own p hp
    · obtain ⟨h1, h2, _⟩ := fr p hp
      exact ⟨h2, (S.own p (List.mem_append_right _ hp)).2.mono S'.bF h1⟩
  · obtain ⟨h1, h2, h3⟩ := S.bH a o e1 e2 e3
    rw [keys_app] at h3
    obtain ⟨q1, q2, q3⟩ := S'.bH a o h1 h2 (fun z => h3 (List.mem_append_left _ z))
    refine ⟨q1, q2, fun z => ?_⟩
    rw [keys_app] at z
    rcases List.mem_append.mp z with z | z
    · exact q3 z
    · exact h3 (List.mem_append_right _ z)
theorem Sat.perm {O O' : Own} (S : Sat K B G O F σ H) (h : O.Perm O') : Sat K B G O' F σ H := by
  have hk : (keys O).Perm (keys O') := h.map _
  refine ⟨S.len, S.slot, S.ex, hk.nodup_iff.mp S.nd, fun p hp => S.own p (h.mem_iff.mpr hp), S.bF, fun a o e1 e2 e3 => ?_⟩
  obtain ⟨h1, h2, h3⟩ := S.bH a o e1 e2 e3
  exact ⟨h1, h2, fun z => h3 (hk.mem_iff.mpr z)⟩
/-- the part of the state that is handed on -/
theorem Sat.part {Gs : Sl} {τ : L2.St} (S : Sat K B G (O1 ++ O2) F σ H) (hl : τ.length = Gs.length) (hs : ∀ (i : Nat) (d : D), Gs[i]? = some (some d) → ∃ v, τ[i]? = some (some v) ∧ Rep K F v d) : Sat K ⟨F, H, keys O1⟩ Gs O1 F τ H := by
  have nd := S.nd
  rw [keys_app] at nd
  exact ⟨hl, hs, S.ex, (List.nodup_append.mp nd).1, fun p hp => S.own p (List.mem_append_left _ hp), Same.refl _, fun a o e1 e2 e3 => ⟨e1, e2, e3⟩⟩
end
structure EndsD where
  nx : Sl → Own → Prop
  rt : D → Own → Prop
  bk : Sl → Own → Prop := fun _ _ => False
  ct : Sl → Own → Prop := fun _ _ => False
def EndsD.to (E : EndsD) (n : Sl → Own → Prop) : EndsD := ⟨n, E.rt, E.bk, E.ct⟩
def EndsD.loop (E : EndsD) (n : Sl → Own → Prop) : EndsD := ⟨n, E.rt, E.nx, n⟩
def EndsD.fn (Φ : D → Own → Prop) : EndsD := ⟨fun _ O' => Φ .non O', Φ, fun _ _ => False, fun _ _ => False⟩
section
variable {E : EndsD} {n : Sl → Own → Prop} {Φ : D → Own → Prop}
theorem to_nx : (E.to n).nx = n := rfl
theorem to_rt : (E.to n).rt = E.rt := rfl
theorem to_bk : (E.to n).bk = E.bk := rfl
theorem to_ct : (E.to n).ct = E.ct := rfl
theorem loop_nx : (E.loop n).nx = n := rfl
theorem loop_rt : (E.loop n).rt = E.rt := rfl
theorem loop_bk : (E.loop n).bk = E.nx := rfl
theorem loop_ct : (E.loop n).ct = n := rfl
theorem fn_nx : (EndsD.fn Φ).nx = fun _ O' => Φ .non O' := rfl
theorem fn_rt : (EndsD.fn Φ).rt = Φ := rfl
end
structure EOk (K : PySem.W.Frag) (B : Bs) (F : Hp) (E : EndsD) (D' : Ends) : Prop where
  nx : ∀ G' O' F' σ' H', Sat K B G' O' F' σ' H' → Same F F' → E.nx G' O' → D'.nx σ' H'
  rt : ∀ G' O' F' σ' H' v d, Sat K B G' O' F' σ' H' → Same F F' → Rep K F' v d → E.rt d O' → D'.rt v H'
  bk : ∀ G' O' F' σ' H', Sat K B G' O' F' σ' H' → Same F F' → E.bk G' O' → D'.bk σ' H'
  ct : ∀ G' O' F' σ' H', Sat K B G' O' F' σ' H' → Same F F' → E.ct G' O' → D'.ct σ' H'
theorem EOk.mono {K : PySem.W.Frag} {B : Bs} {F F' : Hp} {E : EndsD} {D' : Ends} (k : EOk K B F E D') (e : Same F F') : EOk K B F' E D' :=
  ⟨fun a b c d f g h i => k.nx a b c d f g (e.trans h) i, fun a b c d f v w g h r i => k.rt a b c d f v w g (e.trans h) r i, fun a b c d f g h i => k.bk a b c d f g (e.trans h) i, fun a b c d f g h i => k.ct a b c d f g (e.trans h) i⟩
section
variable (X : Cx) (B : Bs) (G : Sl) (O : Own)
def WS (st : Stmt) (E : EndsD) : Prop := ∀ F σ H, Sat X.K B G O F σ H → ∀ D' : Ends, EOk X.K B F E D' → tSemS X st D' σ H
def WSs (st : List Stmt) (E : EndsD) : Prop := ∀ F σ H, Sat X.K B G O F σ H → ∀ D' : Ends, EOk X.K B F E D' → tSemSs X st D' σ H
def Touch (vs : Nat → Prop) (σ σ' : L2.St) : Prop := σ'.length = σ.length ∧ ∀ j, ¬ vs j → σ'[j]? = σ[j]?
def WG (tg : Expr) (vs : Nat → Prop) (d : D) (Φ : Sl → Own → Prop) : Prop := ∀ F σ H v, Sat X.K B G O F σ H → Rep X.K F v d → ∀ Q : L2.St → Hp → Prop,
  (∀ G' O' F' σ' H', Sat X.K B G' O' F' σ' H' → Same F F' → Touch vs σ σ' → Φ G' O' → Q σ' H') → tSemG X tg v σ H Q
/-- what a for walks: the iterator gives ds while what is locked stays -/
structure JOk (K : PySem.W.Frag) (J : It) (F : Hp) (lk : Own) (ds : List D) : Prop where
  go : ∀ i F2 H2, Same F F2 → Same F2 H2 → (∀ p ∈ lk, ORep K F2 H2 p.1 p.2) → i < ds.length → J.go i H2
  stop : ∀ F2 H2, Same F F2 → Same F2 H2 → (∀ p ∈ lk, ORep K F2 H2 p.1 p.2) → J.stop ds.length H2
  yld : ∀ i F2 H2 x H3, Same F F2 → Same F2 H2 → (∀ p ∈ lk, ORep K F2 H2 p.1 p.2) → i < ds.length → J.yld i H2 x H3 → ∃ d, ds[i]? = some d ∧ ((H3 = H2 ∧ Rep K F2 x d) ∨ ∃ p o, H2 p = none ∧ H3 = upd H2 p o ∧ Rep K (upd F2 p o) x d)
def WI (tg iter : Expr) (Φ : List D → Own → Own → Prop) : Prop := ∀ F σ H, Sat X.K B G O F σ H → ∀ R : It → Hp → Prop,
  (∀ J F' H' ds lk O', Sat X.K B G O' F' σ H' → Same F F' → JOk X.K J F' lk ds → Φ ds lk O' → R J H') → tSemI X tg iter σ H R
def WIv (tg iter : Expr) (ds : List D) (lk : Own) : Prop := WI X B G O tg iter fun ds' lk' O' => ds' = ds ∧ lk' = lk ∧ O' = O
end
theorem Touch.refl {vs : Nat → Prop} {σ : L2.St} : Touch vs σ σ := ⟨rfl, fun _ _ => rfl⟩
theorem Touch.trans {vs : Nat → Prop} {σ σ1 σ2 : L2.St} (a : Touch vs σ σ1) (b : Touch vs σ1 σ2) : Touch vs σ σ2 := ⟨b.1.trans a.1, fun j h => (b.2 j h).trans (a.2 j h)⟩
section
variable {M : Mach} {X : Cx} {N : List Str} {sc : Scope} {vb lb gb : Str → Bool} {B : Bs} {G : Sl} {O : Own} {e a b : Expr} {es : List Expr} {pos : Pos} {d d1 d2 : D} {ds : List D} {E : EndsD} {st : Stmt} {rest : List Stmt}
theorem WI.mono {tg iter : Expr} {Φ Ψ : List D → Own → Own → Prop} (h : WI X B G O tg iter Φ) (k : ∀ a b c, Φ a b c → Ψ a b c) : WI X B G O tg iter Ψ := fun F σ H S R q => h F σ H S R fun J F' H' ds lk O' S' e' j p => q J F' H' ds lk O' S' e' j (k _ _ _ p)
theorem wi_v {tg iter : Expr} {Φ : List D → Own → Own → Prop} {lk : Own} (h : WIv X B G O tg iter ds lk) (q : Φ ds lk O) : WI X B G O tg iter Φ := h.mono fun _ _ _ z => by rw [z.1, z.2.1, z.2.2]; exact q
theorem wss_nil (h : E.nx G O) : WSs X B G O [] E := fun F σ H S D' k => semSs pss_nil (k.nx G O F σ H S (Same.refl _) h)
theorem wss_cons (h : WS X B G O st (E.to fun G' O' => WSs X B G' O' rest E)) : WSs X B G O (st :: rest) E := fun F σ H S D' k => semSs (pss_cons ps_sem pss_sem)
  (h F σ H S { D' with nx := tSemSs X rest D' } ⟨fun G' O' F' σ' H' S' e' p => p F' σ' H' S' D' (k.mono e'), k.rt, k.bk, k.ct⟩)
theorem wss_one (h : WS X B G O st E) : WSs X B G O [st] E := fun F σ H S D' k => semSs (pss_one ps_sem) (h F σ H S D' k)
theorem WSs.mono {E' : EndsD} {sts : List Stmt} (h : WSs X B G O sts E) (k1 : ∀ G O, E.nx G O → E'.nx G O) (k2 : ∀ G O, E.rt G O → E'.rt G O) (k3 : ∀ G O, E.bk G O → E'.bk G O) (k4 : ∀ G O, E.ct G O → E'.ct G O) : WSs X B G O sts E' := fun F σ H S D' k =>
  h F σ H S D' ⟨fun G' O' F' σ' H' S' e' p => k.nx G' O' F' σ' H' S' e' (k1 _ _ p), fun G' O' F' σ' H' v d S' e' r p => k.rt G' O' F' σ' H' v d S' e' r (k2 _ _ p), fun G' O' F' σ' H' S' e' p => k.bk G' O' F' σ' H' S' e' (k3 _ _ p), fun G' O' F' σ' H' S' e' p => k.ct G' O' F' σ' H' S' e' (k4 _ _ p)⟩
/-- an owned list in a slot is from here on never changed -/
inductive FrzAt : Sl → Addr → D → Sl → Prop
  | nil {a : Addr} {d : D} : FrzAt [] a d []
  | hit {a : Addr} {d : D} {r r' : Sl} : FrzAt r a d r' → FrzAt (some (.obj a) :: r) a d (some d :: r')
  | miss {a : Addr} {d : D} {g : Option D} {r r' : Sl} : FrzAt r a d r' → FrzAt (g :: r) a d (g :: r')
theorem FrzAt.ix : ∀ {G G' : Sl} {a : Addr} {d : D}, FrzAt G a d G' → G'.length = G.length ∧ ∀ (i : Nat) (y : D), G'[i]? = some (some y) → G[i]? = some (some y) ∨ (y = d ∧ G[i]? = some (some (.obj a)))
  | _, _, _, _, .nil => ⟨rfl, fun i y e => by simp at e⟩
  | _, _, _, _, .hit h => by
    obtain ⟨h1, h2⟩ := FrzAt.ix h
    refine ⟨by rw [List.length_cons, List.length_cons, h1], fun i y e => ?_⟩
    cases i with
    | zero => simp at e; subst e; exact .inr ⟨rfl, rfl⟩
    | succ i => simpa using h2 i y (by simpa using e)
  | _, _, _, _, .miss h => by
    obtain ⟨h1, h2⟩ := FrzAt.ix h
    refine ⟨by rw [List.length_cons, List.length_cons, h1], fun i y e => ?_⟩
    cases i with
    | zero => exact .inl (by simpa using e)
    | succ i => simpa using h2 i y (by simpa using e)
theorem wss_freeze {p : Addr} {O' : Own} {G' : Sl} {sts : List Stmt} (hd : ODel O p (.lst ds) O') (hg : FrzAt G p (.lst ds) G') (h : WSs X B G' O' sts E) : WSs X B G O sts E := fun F σ H S D' k => by
  obtain ⟨vs, hv, r, e2, S2⟩ := S.freeze hd
  obtain ⟨l1, l2⟩ := hg.ix
  refine h _ σ H (S2.slots (G' := G') (by rw [S2.len, l1]) fun i y e => ?_) D' (k.mono e2)
  rcases l2 i y e with z | ⟨rfl, z⟩
  · exact S2.slot i y z
  · obtain ⟨v, h1, h2⟩ := S2.slot i _ z
    cases h2
    exact ⟨_, h1, .lst (SqL.of upd_same) (r.mono e2)⟩
/-- less is said -/
theorem wss_forget {O' : Own} {sts : List Stmt} (hs : O'.Sublist O) (h : WSs X B G O' sts E) : WSs X B G O sts E := fun F σ H S D' k =>
  h F σ H (S.sub (fun p hp => hs.subset hp) ((hs.map _).nodup S.nd)) D' k
theorem ws_expr (h : WE X B G O e fun _ O' => E.nx G O') (hs : swapsWith e none pos.line X.env = pure false := by rfl) : WS X B G O (.Expr e pos) E := fun F σ H S D' k =>
  semS (ps_expr pe_sem hs) (h F σ H S _ fun v F' H' d O' S' e' r p => k.nx G O' F' σ H' S' e' p)
theorem ws_ret (h : WE X B G O e E.rt) : WS X B G O (.Return (some e) pos) E := fun F σ H S D' k =>
  semS (ps_ret pe_sem) (h F σ H S _ fun v F' H' d O' S' e' r p => k.rt G O' F' σ H' v d S' e' r p)
theorem ws_if {x y : List Stmt} (h : WT X B G O e fun c O' => if c = true then WSs X B G O' x E else WSs X B G O' y E) : WS X B G O (.If e x y pos) E := fun F σ H S D' k =>
  semS (ps_if pt_sem pss_sem pss_sem) (h F σ H S _ fun c F' H' O' S' e' p => by
    cases c with
    | true => exact p F' σ H' S' D' (k.mono e')
    | false => exact p F' σ H' S' D' (k.mono e'))
theorem ws_ifv {x y : List Stmt} {c : Bool} (ht : PTv X B G O e c) (h1 : c = true → WSs X B G O x E) (h2 : c = false → WSs X B G O y E) : WS X B G O (.If e x y pos) E := ws_if (wt_pv ht (by
  cases c with
  | true => exact h1 rfl
  | false => exact h2 rfl))
theorem wg_name {x : Str} {i : Nat} {f : D → Sl} {vs : Nat → Prop} {Φ : Sl → Own → Prop} (C : Cxt M X N sc vb lb gb) (h : SetAt N G x i f) (hl : lb x = true) (hv : vs i) (q : Φ (f d) O) : WG X B G O (.Name x pos) vs d Φ := fun F σ H v S r Q k => by
  obtain ⟨h1, h2⟩ := h.ix
  obtain ⟨l1, l2⟩ := C.loc x hl
  refine semG (pg_name (i := i) (by rw [C.hN]; exact C.nd) (by rw [C.hN]; exact h1) l1 l2) ?_
  rw [h2] at q
  exact k _ O F _ H (S.set r) (Same.refl _) ⟨List.length_set, fun j hj => List.getElem?_set_ne fun e => hj (by rw [← e]; exact hv)⟩ q
structure tSemGs (X : Cx) (ts : List Expr) (vs : List V) (σ : L2.St) (H : Hp) (Q : L2.St → Hp → Prop) : Prop where
  run : ∀ (pins : List (Addr × Obj)) (s : Shared) (us : List Value), Inv X pins σ H s → Vals vs us →
    wpAny (model X.prog X.w) X.A (assignInOrder ((assignEach ts X.env).map (·.2)) us) (fun _ s' => ∃ σ' H', Inv X pins σ' H' s' ∧ Q σ' H') X.xe s
theorem pgs_sem {ts : List Expr} : PGs X ts (tSemGs X ts) := ⟨fun pins s _ _ _ us _ I r h => h.run pins s us I r⟩
def WGs (X : Cx) (B : Bs) (G : Sl) (O : Own) (ts : List Expr) (vs : Nat → Prop) (ds : List D) (Φ : Sl → Own → Prop) : Prop := ∀ F σ H xs, Sat X.K B G O F σ H → Reps X.K F xs ds → ∀ Q : L2.St → Hp → Prop,
  (∀ G' O' F' σ' H', Sat X.K B G' O' F' σ' H' → Same F F' → Touch vs σ σ' → Φ G' O' → Q σ' H') → tSemGs X ts xs σ H Q
theorem wgs_nil {vs : Nat → Prop} {Φ : Sl → Own → Prop} (q : Φ G O) : WGs X B G O [] vs [] Φ := fun F σ H xs S r Q k => ⟨fun pins s us I rv => by
  cases r
  exact pgs_nil.run pins s σ H [] us Q I rv ⟨rfl, k G O F σ H S (Same.refl _) Touch.refl q⟩⟩
theorem wgs_cons {t : Expr} {ts : List Expr} {vs : Nat → Prop} {Φ : Sl → Own → Prop} (h : WG X B G O t vs d fun G' O' => WGs X B G' O' ts vs ds Φ) (hs : (assignEach (t :: ts) X.env).map (·.2) = assign t X.env :: (assignEach ts X.env).map (·.2) := by rfl) : WGs X B G O (t :: ts) vs (d :: ds) Φ :=
  fun F σ H xs S r Q k => ⟨fun pins s us I rv => by
    cases r with
    | cons r1 r2 =>
      rename_i v xr
      exact (pgs_cons pg_sem pgs_sem hs).run pins s σ H _ us Q I rv ⟨v, xr, rfl, h F σ H v S r1 _ fun G' O' F' σ' H' S' e' t' p => p F' σ' H' xr S' (r2.mono e') Q fun G2 O2 F2 σ2 H2 S2 e2 t2 p2 => k G2 O2 F2 σ2 H2 S2 (e'.trans e2) (t'.trans t2) p2⟩⟩
theorem wg_tup {ts : List Expr} {j : Nat} {vs : Nat → Prop} {Φ : Sl → Own → Prop} (C : Cxt M X N sc vb lb gb) (h : WGs X B G O ts vs ds Φ) (hn : (assignEach ts X.env).length = ds.length := by rfl) (hst : (assignEach ts X.env).findIdx? (·.1) = none := by rfl) : WG X B G O (.Tuple ts j pos) vs (.tup ds) Φ :=
  fun F σ H v S r Q k => by
    cases r with
    | tup hq rs => exact semG (pg_tup C.calm pgs_sem hn hst) ⟨_, _, rfl, sqT_mono S.ex hq, rs.length, h F σ H _ S rs Q k⟩
theorem ws_asg {tg : Expr} {vs : Nat → Prop} (h : WE X B G O e fun d O' => WG X B G O' tg vs d E.nx) (hs : swapsWithSole [tg] e pos.line X.env = pure false := by rfl) (hw : swappedStores [tg] e X.env = pure none := by rfl)
    (h1 : (assignEach [tg] X.env).map (·.2) = [assign tg X.env] := by rfl) : WS X B G O (.Assign [tg] e pos) E := fun F σ H S D' k =>
  semS (ps_asg pe_sem pg_sem hs hw h1) (h F σ H S _ fun v F' H' d O' S' e' r p => p F' σ H' v S' r _ fun G2 O2 F2 σ2 H2 S2 e2 _ p2 => k.nx G2 O2 F2 σ2 H2 S2 (e'.trans e2) p2)
theorem ws_set {x : Str} {i : Nat} {f : D → Sl} {pos' : Pos} (C : Cxt M X N sc vb lb gb) (h : SetAt N G x i f) (hl : lb x = true) (he : WE X B G O e fun d O' => E.nx (f d) O') (hs : swapsWith e (some (.Name x pos')) pos.line X.env = pure false := by rfl) : WS X B G O (.Assign [.Name x pos'] e pos) E := fun F σ H S D' k => by
  obtain ⟨h1, h2⟩ := h.ix
  obtain ⟨l1, l2⟩ := C.loc x hl
  refine semS (ps_set (i := i) (by rw [C.hN]; exact C.nd) (by rw [C.hN]; exact h1) l1 pe_sem hs l2) ?_
  exact he F σ H S _ fun v F' H' d O' S' e' r p => by
    have p' : E.nx (f d) O' := p
    rw [h2] at p'
    exact k.nx _ O' F' _ H' (S'.set r) e' p'
/-- x op= e of ints -/
theorem ws_augI {x : Str} {i : Nat} {f : D → Sl} {pos' : Pos} {op : Operator} {g : Int → Int → Int} {n : Int} (C : Cxt M X N sc vb lb gb) (ho : PIp X op (ipI g)) (hv : VarAt N G x (.int n)) (h : SetAt N G x i f) (hl : lb x = true)
    (he : WE X B G O e fun d O' => ∃ j, d = .int j ∧ E.nx (f (.int (g n j))) O') : WS X B G O (.AugAssign (.Name x pos') op e pos) E := fun F σ H S D' k => by
  obtain ⟨h1, h2⟩ := h.ix
  obtain ⟨l1, l2⟩ := C.loc x hl
  obtain ⟨j, k1, k2⟩ := hv.ix
  have ej : j = i := nodup_ix C.nd k1 h1
  subst ej
  obtain ⟨v, ev, rv⟩ := S.slot j _ k2
  cases rv
  refine semS (ps_aug (i := j) (by rw [C.hN]; exact C.nd) (by rw [C.hN]; exact h1) l1 pe_sem ho l2) ⟨_, ev, ?_⟩
  exact he F σ H S _ fun v F' H' d O' S' e' r p => by
    obtain ⟨m, rfl, p⟩ := p
    cases r
    rw [h2] at p
    exact ⟨n, m, rfl, rfl, k.nx _ O' F' _ H' (S'.set (.int _)) e' p⟩
end
section
variable {M : Mach} {X : Cx} {N : List Str} {sc : Scope} {vb lb gb : Str → Bool} {B : Bs} {G : Sl} {O : Own} {e a b : Expr} {es : List Expr} {pos : Pos} {d d1 d2 : D} {ds : List D} {E : EndsD}
theorem JOk.turn {K : PySem.W.Frag} {J : It} {F F2 H2 : Hp} {lk O2 : Own} {σ : L2.St} (j : JOk K J F lk ds) (S : Sat K B G O2 F2 σ H2) (e : Same F F2) (hl : ∀ p ∈ lk, p ∈ O2) {i : Nat} (hi : i < ds.length) {x : V} {H3 : Hp} (y : J.yld i H2 x H3) :
    ∃ d F3, ds[i]? = some d ∧ Sat K B G O2 F3 σ H3 ∧ Same F2 F3 ∧ Rep K F3 x d := by
  obtain ⟨d, hd, ⟨rfl, r⟩ | ⟨p, o, hp, rfl, r⟩⟩ := j.yld i F2 H2 x H3 e S.ex (fun p hp => (S.own p (hl p hp)).2) hi y
  · exact ⟨d, F2, hd, S, Same.refl _, r⟩
  · exact ⟨d, _, hd, S.alloc hp o, same_upd (S.fresh hp).1, r⟩
theorem ws_for {tg iter : Expr} {body : List Stmt} (C : Cxt M X N sc vb lb gb)
    (h : WI X B G O tg iter fun ds lk O1 => ∃ I : Nat → Sl → Own → Prop, I 0 G O1 ∧ (∀ i G' O', i ≤ ds.length → I i G' O' → ∀ p ∈ lk, p ∈ O') ∧
      (∀ i d G' O', ds[i]? = some d → I i G' O' → WG X B G' O' tg (fun _ => True) d fun G2 O2 => WSs X B G2 O2 body (E.loop (I (i + 1)))) ∧ (∀ G' O', I ds.length G' O' → E.nx G' O'))
    (hs : ∀ x, foldedSetIterable iter X.env x = pure x := by intro _; rfl) : WS X B G O (.For tg iter body [] pos) E := fun F σ H S D' k =>
  semS (ps_for C.own C.calm pi_sem pg_sem pss_sem hs) (h F σ H S _ fun J F1 H1 ds lk O1 S1 e1 j p => by
    obtain ⟨I, i0, il, is, id⟩ := p
    refine ⟨fun i m σ H => m = ds.length - i ∧ i ≤ ds.length ∧ ∃ G' O' F', Sat X.K B G' O' F' σ H ∧ Same F1 F' ∧ I i G' O', ⟨_, rfl, Nat.zero_le _, G, O1, F1, S1, Same.refl _, i0⟩, ?_⟩
    rintro i m σ2 H2 ⟨rfl, hi, G2, O2, F2, S2, e2, p2⟩
    have lk2 := il i G2 O2 hi p2
    have lk2' : ∀ p ∈ lk, ORep X.K F2 H2 p.1 p.2 := fun p hp => (S2.own p (lk2 p hp)).2
    by_cases hlt : i < ds.length
    · refine .inr ⟨j.go i F2 H2 e2 S2.ex lk2' hlt, fun σ' H' => ∃ G' O' F', Sat X.K B G' O' F' σ' H' ∧ Same F1 F' ∧ I (i + 1) G' O', fun σ' H' q => ⟨ds.length - (i + 1), by omega, rfl, hlt, q⟩, fun x H3 y => ?_⟩
      obtain ⟨d, F3, hd, S3, e3, r3⟩ := j.turn S2 e2 lk2 hlt y
      refine is i d G2 O2 hd p2 F3 σ2 H3 x S3 r3 _ fun G4 O4 F4 σ4 H4 S4 e4 _ p4 => ?_
      have ee : Same F1 F4 := (e2.trans e3).trans e4
      exact p4 F4 σ4 H4 S4 _ ⟨fun G5 O5 F5 σ5 H5 S5 e5 p5 => ⟨G5, O5, F5, S5, ee.trans e5, p5⟩, fun G5 O5 F5 σ5 H5 v d S5 e5 r5 p5 => k.rt G5 O5 F5 σ5 H5 v d S5 (e1.trans (ee.trans e5)) r5 p5, fun G5 O5 F5 σ5 H5 S5 e5 p5 => k.nx G5 O5 F5 σ5 H5 S5 (e1.trans (ee.trans e5)) p5, fun G5 O5 F5 σ5 H5 S5 e5 p5 => ⟨G5, O5, F5, S5, ee.trans e5, p5⟩⟩
    · have ei : i = ds.length := by omega
      subst ei
      exact .inl ⟨j.stop F2 H2 e2 S2.ex lk2', k.nx G2 O2 F2 σ2 H2 S2 (e1.trans e2) (id G2 O2 p2)⟩)
theorem ws_while {body : List Stmt} (C : Cxt M X N sc vb lb gb) (I : Nat → Sl → Own → Prop) (i0 : ∃ m, I m G O)
    (h : ∀ m G' O', I m G' O' → WT X B G' O' e fun c O2 => if c = true then WSs X B G' O2 body (E.loop fun G3 O3 => ∃ m', m' < m ∧ I m' G3 O3) else E.nx G' O2) : WS X B G O (.While e body [] pos) E := fun F σ H S D' k =>
  semS (ps_while C.own pt_sem pss_sem) (by
    obtain ⟨m0, i0⟩ := i0
    refine ⟨fun m σ H => ∃ G' O' F', Sat X.K B G' O' F' σ H ∧ Same F F' ∧ I m G' O', ⟨m0, G, O, F, S, Same.refl _, i0⟩, ?_⟩
    rintro m σ2 H2 ⟨G2, O2, F2, S2, e2, p2⟩
    refine h m G2 O2 p2 F2 σ2 H2 S2 _ fun c F3 H3 O3 S3 e3 p3 => ?_
    cases c with
    | true =>
      rw [if_pos rfl] at p3 ⊢
      refine ⟨fun σ' H' => ∃ m', m' < m ∧ ∃ G' O' F', Sat X.K B G' O' F' σ' H' ∧ Same F F' ∧ I m' G' O', fun σ' H' q => q, ?_⟩
      have ee := e2.trans e3
      exact p3 F3 σ2 H3 S3 _ ⟨fun G5 O5 F5 σ5 H5 S5 e5 ⟨m', hm, p5⟩ => ⟨m', hm, G5, O5, F5, S5, ee.trans e5, p5⟩, fun G5 O5 F5 σ5 H5 v d S5 e5 r5 p5 => k.rt G5 O5 F5 σ5 H5 v d S5 (ee.trans e5) r5 p5, fun G5 O5 F5 σ5 H5 S5 e5 p5 => k.nx G5 O5 F5 σ5 H5 S5 (ee.trans e5) p5, fun G5 O5 F5 σ5 H5 S5 e5 ⟨m', hm, p5⟩ => ⟨m', hm, G5, O5, F5, S5, ee.trans e5, p5⟩⟩
    | false =>
      rw [if_neg Bool.false_ne_true] at p3 ⊢
      exact k.nx G2 O3 F3 σ2 H3 S3 (e2.trans e3) p3)
theorem jok_list {K : PySem.W.Frag} {F : Hp} {a : Addr} {vs : List V} (hq : SqL K F a vs) (rs : Reps K F vs ds) : JOk K (Itl K a) F [] ds where
  go := fun i F2 H2 e1 e2 _ hi => ⟨vs, vs[i]'(by rw [rs.length]; exact hi), (e1.trans e2).seq hq, by simp⟩
  stop := fun F2 H2 e1 e2 _ => ⟨vs, (e1.trans e2).seq hq, by rw [rs.length]; exact Nat.le_refl _⟩
  yld := fun i F2 H2 x H3 e1 e2 _ hi y => by
    obtain ⟨rfl, y⟩ := y
    obtain ⟨d, hd, r⟩ := rs.get' (y vs ((e1.trans e2).seq hq))
    exact ⟨d, hd, .inl ⟨rfl, r.mono e1⟩⟩
theorem jok_tup {K : PySem.W.Frag} {F : Hp} {a : Addr} {vs : List V} (hq : SqT K F a vs) (rs : Reps K F vs ds) : JOk K (Itt K a) F [] ds where
  go := fun i F2 H2 e1 e2 _ hi => ⟨vs, vs[i]'(by rw [rs.length]; exact hi), sqT_mono (e1.trans e2) hq, by simp⟩
  stop := fun F2 H2 e1 e2 _ => ⟨vs, sqT_mono (e1.trans e2) hq, by rw [rs.length]; exact Nat.le_refl _⟩
  yld := fun i F2 H2 x H3 e1 e2 _ hi y => by
    obtain ⟨rfl, y⟩ := y
    obtain ⟨d, hd, r⟩ := rs.get' (y vs (sqT_mono (e1.trans e2) hq))
    exact ⟨d, hd, .inl ⟨rfl, r.mono e1⟩⟩
theorem jok_own {K : PySem.W.Frag} {F : Hp} {a : Addr} : JOk K (Itl K a) F [(a, OV.lst ds)] ds where
  go := fun i F2 H2 e1 e2 hl hi => by
    obtain ⟨vs, hv, rs⟩ := hl (a, OV.lst ds) List.mem_cons_self
    exact ⟨vs, vs[i]'(by rw [rs.length]; exact hi), SqL.of hv, by simp⟩
  stop := fun F2 H2 e1 e2 hl => by
    obtain ⟨vs, hv, rs⟩ := hl (a, OV.lst ds) List.mem_cons_self
    exact ⟨vs, SqL.of hv, by rw [rs.length]; exact Nat.le_refl _⟩
  yld := fun i F2 H2 x H3 e1 e2 hl hi y => by
    obtain ⟨vs, hv, rs⟩ := hl (a, OV.lst ds) List.mem_cons_self
    obtain ⟨rfl, y⟩ := y
    obtain ⟨d, hd, r⟩ := rs.get' (y vs (SqL.of hv))
    exact ⟨d, hd, .inl ⟨rfl, r⟩⟩
theorem jok_range {K : PySem.W.Frag} {F : Hp} {lo : Int} {n : Nat} : JOk K (Itr lo n) F [] ((List.range n).map fun i => D.int (lo + (i : Nat))) where
  go := fun i F2 H2 e1 e2 _ hi => by
    show i < n
    simpa using hi
  stop := fun F2 H2 e1 e2 _ => by
    show n ≤ _
    simp
  yld := fun i F2 H2 x H3 e1 e2 _ hi y => by
    obtain ⟨rfl, rfl⟩ := y
    have hi' : i < n := by simpa using hi
    exact ⟨.int (lo + i), by simp [hi'], .inl ⟨rfl, .int _⟩⟩
theorem wi_lst {tg iter : Expr} {Φ : List D → Own → Own → Prop} (h : WE X B G O iter fun d O1 => ∃ ds, d = .lst ds ∧ Φ ds [] O1) : WI X B G O tg iter Φ := fun F σ H S R k =>
  semI (pi_list pe_sem) (h F σ H S _ fun v F1 H1 d O1 S1 e1 r1 p1 => by
    obtain ⟨ds, rfl, p1⟩ := p1
    cases r1 with
    | lst hq rs => exact ⟨_, rfl, ⟨_, S1.ex.seq hq⟩, k _ F1 H1 ds [] O1 S1 e1 (jok_list hq rs) p1⟩)
theorem wi_tup {tg iter : Expr} {Φ : List D → Own → Own → Prop} (h : WE X B G O iter fun d O1 => ∃ ds, d = .tup ds ∧ Φ ds [] O1) : WI X B G O tg iter Φ := fun F σ H S R k =>
  semI (pi_tup pe_sem) (h F σ H S _ fun v F1 H1 d O1 S1 e1 r1 p1 => by
    obtain ⟨ds, rfl, p1⟩ := p1
    cases r1 with
    | tup hq rs => exact ⟨_, rfl, ⟨_, sqT_mono S1.ex hq⟩, k _ F1 H1 ds [] O1 S1 e1 (jok_tup hq rs) p1⟩)
theorem wi_own {tg iter : Expr} {Φ : List D → Own → Own → Prop} (h : WE X B G O iter fun d O1 => ∃ a ds, d = .obj a ∧ (a, OV.lst ds) ∈ O1 ∧ Φ ds [(a, OV.lst ds)] O1) : WI X B G O tg iter Φ := fun F σ H S R k =>
  semI (pi_list pe_sem) (h F σ H S _ fun v F1 H1 d O1 S1 e1 r1 p1 => by
    obtain ⟨a, ds, rfl, hm, p1⟩ := p1
    cases r1 with
    | obj a =>
      obtain ⟨_, vs, hv, rs⟩ := S1.own _ hm
      exact ⟨_, rfl, ⟨_, SqL.of hv⟩, k _ F1 H1 ds _ O1 S1 e1 jok_own p1⟩)
theorem wiv_lst {tg iter : Expr} (h : PEv X B G O iter (.lst ds)) : WIv X B G O tg iter ds [] := wi_lst (we_pv h ⟨ds, rfl, rfl, rfl, rfl⟩)
theorem wiv_tup {tg iter : Expr} (h : PEv X B G O iter (.tup ds)) : WIv X B G O tg iter ds [] := wi_tup (we_pv h ⟨ds, rfl, rfl, rfl, rfl⟩)
theorem wiv_own {tg iter : Expr} {a : Addr} (h : PEv X B G O iter (.obj a)) (hm : (a, OV.lst ds) ∈ O) : WIv X B G O tg iter ds [(a, OV.lst ds)] := wi_own (we_pv h ⟨a, ds, rfl, hm, rfl, rfl, rfl⟩)
theorem wi_range1 {tg : Expr} {p : Pos} {Φ : List D → Own → Own → Prop} (C : Cxt M X N sc vb lb gb) (hm : M.mg "range" = none) (hg : gb "range" = true) (h : WE X B G O a fun d O1 => ∃ j : Int, d = .int j ∧ -(2 ^ 62) ≤ j ∧ j < 2 ^ 62 ∧ Φ ((List.range j.toNat).map fun i => D.int (0 + (i : Nat))) [] O1) (sa : Plain1 a := by exact fun _ _ => star_cons rfl) :
    WI X B G O tg (.Call (.Name "range" p) [a] [] pos) Φ := fun F σ H S R k =>
  semI (pi_range1 (C.gl _ hg).1 (by rw [C.mg]; exact hm) pa_sem (sa _ _)) ((wa_cons (h.mono fun d O1 z => wa_nil (Φ := fun ds O' => ∃ j : Int, (d :: ds) = [.int j] ∧ -(2 ^ 62) ≤ j ∧ j < 2 ^ 62 ∧ Φ ((List.range j.toNat).map fun i => D.int (0 + (i : Nat))) [] O') (by
    obtain ⟨j, rfl, q⟩ := z
    exact ⟨j, rfl, q⟩)) (sa _ _) : WA X B G O [a] fun ds O' => ∃ j : Int, ds = [.int j] ∧ -(2 ^ 62) ≤ j ∧ j < 2 ^ 62 ∧ Φ ((List.range j.toNat).map fun i => D.int (0 + (i : Nat))) [] O') F σ H S _ fun vs F1 H1 ds O1 S1 e1 r1 p1 => by
    obtain ⟨j, rfl, q1, q2, q3⟩ := p1
    obtain ⟨v, rfl, rv⟩ := reps1 r1
    cases rv
    exact ⟨j, rfl, q1, q2, k _ F1 H1 _ [] O1 S1 e1 jok_range q3⟩)
end
end Dl
set_option Elab.async false
set_option linter.all false
set_option maxRecDepth 100000
set_option maxHeartbeats 2000000
namespace Dl
open PySem PySem.Spec PyProof.Rows L2
def visB (sc : Scope) (x : Str) : Bool := (match sc.names.lookup x with | some .local => true | some .cell => true | some .free => true | _ => false) && !(x == ("__debug__" : Str)) && !(x == ("__classdict__" : Str))
def locB (sc : Scope) (x : Str) : Bool := match sc.names.lookup x with | some .local => true | some .cell => true | _ => false
def glB (sc : Scope) (x : Str) : Bool := (match sc.names.lookup x with | some .globalImplicit => true | _ => false) && !(x == ("__debug__" : Str))
structure Blk (M : Mach) (X : Cx) (N : List Str) (sc scope : Scope) (X' : Cx) : Prop where
  C : Cxt M X' N (relS scope sc) (visB scope) (locB scope) (glB scope)
  A : X'.A = X.A
def IsBlk (X : Cx) (scope : Scope) (X' : Cx) : Prop := ∃ (s : Shared) (H : Hp) (cl : List (Str × Addr)) (Cc : Addr) (fp : List Addr), X' = X.blk s H scope (compEnvC scope cl Cc X.env) fp
section
variable {M : Mach} {X : Cx} {N : List Str} {sc : Scope} {vb lb gb : Str → Bool}
theorem relS_keep {scope sc : Scope} {x : Str} {k : NameKind} (hk : k ≠ .free) (h : scope.names.lookup x = some k) : (relS scope sc).names.lookup x = some k := lookup_relS_keep (sc := sc) hk h
theorem relS_free {scope sc : Scope} : ∀ {names : List (Str × NameKind)} {x : Str}, names.lookup x = some .free →
    (names.map fun (n, k) => if (k == NameKind.free && sc.kind == .function && sc.names.lookup n == some .cell) then (n, NameKind.cell) else (n, k)).lookup x = some .free ∨
    (names.map fun (n, k) => if (k == NameKind.free && sc.kind == .function && sc.names.lookup n == some .cell) then (n, NameKind.cell) else (n, k)).lookup x = some .cell
  | [], _, h => by simp at h
  | (n, k) :: r, x, h => by
    have ih := @relS_free scope sc r x
    rw [List.map_cons]
    by_cases hx : x == n
    · rw [List.lookup_cons, hx] at h
      have hk : k = .free := Option.some.inj h
      subst hk
      by_cases hc : (NameKind.free == NameKind.free && sc.kind == .function && sc.names.lookup n == some .cell) = true
      · right
        simp only [hc, if_true, List.lookup_cons, hx]
      · left
        simp only [hc, Bool.false_eq_true, if_false, List.lookup_cons, hx]
    · have hx' : (x == n) = false := by simpa using hx
      rw [List.lookup_cons, hx'] at h
      by_cases hc : (k == NameKind.free && sc.kind == .function && sc.names.lookup n == some .cell) = true
      · simp only [hc, if_true, List.lookup_cons, hx']
        exact ih h
      · simp only [hc, Bool.false_eq_true, if_false, List.lookup_cons, hx']
        exact ih h
theorem blk_of {scope : Scope} {own : List (Str × Nat)} (C : Cxt M X N sc vb lb gb) (hb : blkC N sc scope own = true) {X' : Cx} (h : IsBlk X scope X') : Blk M X N sc scope X' := by
  obtain ⟨s, H, cl, Cc, fp, rfl⟩ := h
  have ok := blkOk_by hb
  have hs : (compEnvC scope cl Cc X.env).scope = relS scope sc := by
    rw [← C.hsc]
    rfl
  refine ⟨⟨C.hM, C.hN, hs, ?_, C.nd, C.calm, PassesOwn.never, C.un, fun x hx => ?_, fun x hx => ?_, fun x hx => ?_⟩, rfl⟩
  · show (compEnvC scope cl Cc X.env).scope.kind = .function
    rw [hs]
    exact ok.kind
  · unfold visB at hx
    rw [Bool.and_eq_true, Bool.and_eq_true] at hx
    obtain ⟨⟨h1, h2⟩, h3⟩ := hx
    refine ⟨?_, by simpa using h2, by simpa using h3⟩
    show Vis (compEnvC scope cl Cc X.env).scope x
    rw [hs]
    cases e : scope.names.lookup x with
    | none => rw [e] at h1; cases h1
    | some k =>
      rw [e] at h1
      cases k with
      | «local» => exact .inl (relS_keep (by decide) e)
      | cell => exact .inr (.inl (relS_keep (by decide) e))
      | free =>
        rcases relS_free (scope := scope) (sc := sc) e with z | z
        · exact .inr (.inr z)
        · exact .inr (.inl z)
      | _ => cases h1
  · unfold locB at hx
    show L2.Loc (compEnvC scope cl Cc X.env).scope x ∧ ((scope.names.lookup x == some .cell) = true ∨ (compEnvC scope cl Cc X.env).scope.names.lookup x = some .local)
    rw [hs]
    cases e : scope.names.lookup x with
    | none => rw [e] at hx; cases hx
    | some k =>
      rw [e] at hx
      cases k with
      | «local» => exact ⟨.inl (relS_keep (by decide) e), .inr (relS_keep (by decide) e)⟩
      | cell => exact ⟨.inr (relS_keep (by decide) e), .inl (by rfl)⟩
      | _ => cases hx
  · unfold glB at hx
    rw [Bool.and_eq_true] at hx
    obtain ⟨h1, h2⟩ := hx
    refine ⟨?_, by simpa using h2⟩
    show (compEnvC scope cl Cc X.env).scope.names.lookup x = some .globalImplicit
    rw [hs]
    cases e : scope.names.lookup x with
    | none => rw [e] at h1; cases h1
    | some k =>
      rw [e] at h1
      cases k with
      | globalImplicit => exact relS_keep (by decide) e
      | _ => cases h1
end
structure tSemTs (X : Cx) (ifs : List Expr) (σ : L2.St) (H : Hp) (Q : Bool → Hp → Prop) : Prop where
  run : ∀ (pins : List (Addr × Obj)) (s : Shared), Inv X pins σ H s →
    wpAny (model X.prog X.w) X.A (forIn ifs true fun c r => if r = true then do let ok ← isTrue c X.env (eval c X.env); pure (ForInStep.yield ok) else pure (ForInStep.yield r)) (TP X pins σ Q) X.xe s
def WF (X : Cx) (B : Bs) (G : Sl) (O : Own) (ifs : List Expr) (Φ : Bool → Own → Prop) : Prop := ∀ F σ H, Sat X.K B G O F σ H → ∀ Q : Bool → Hp → Prop, (∀ b F' H' O', Sat X.K B G O' F' σ H' → Same F F' → Φ b O' → Q b H') → tSemTs X ifs σ H Q
def wipeD (G : Sl) : List Nat → Sl
  | [] => G
  | v :: vs => (wipeD G vs).set v none
theorem wipeD_length (G : Sl) : ∀ vs : List Nat, (wipeD G vs).length = G.length
  | [] => rfl
  | v :: vs => by unfold wipeD; rw [List.length_set, wipeD_length G vs]
theorem wipeD_some {G : Sl} {i : Nat} {x : D} : ∀ {vs : List Nat}, (wipeD G vs)[i]? = some (some x) → G[i]? = some (some x) ∧ i ∉ vs
  | [], h => ⟨h, by simp⟩
  | v :: vs, h => by
    unfold wipeD at h
    by_cases hi : v = i
    · subst hi
      by_cases hv : v < (wipeD G vs).length
      · rw [List.getElem?_set_self hv] at h; cases h
      · rw [List.getElem?_eq_none (by simpa using hv)] at h; cases h
    · rw [List.getElem?_set_ne hi] at h
      obtain ⟨h1, h2⟩ := wipeD_some h
      exact ⟨h1, by simp only [List.mem_cons, not_or]; exact ⟨fun e => hi e.symm, h2⟩⟩
theorem wipe_out' {σ : L2.St} {i : Nat} : ∀ {vs : List Nat}, i ∉ vs → (wipe σ vs)[i]? = σ[i]?
  | [], _ => rfl
  | v :: vs, h => by
    simp only [List.mem_cons, not_or] at h
    unfold wipe
    rw [List.getElem?_set_ne (fun e => h.1 e.symm)]
    exact wipe_out' h.2
theorem wipe_in {σ : L2.St} {i : Nat} : ∀ {vs : List Nat}, i ∈ vs → i < σ.length → (wipe σ vs)[i]? = some none
  | v :: vs, h, hl => by
    unfold wipe
    by_cases e : v = i
    · subst e
      rw [List.getElem?_set_self (by rw [wipe_length]; exact hl)]
    · rw [List.getElem?_set_ne e]
      rcases List.mem_cons.mp h with z | z
      · exact absurd z.symm e
      · exact wipe_in z hl
theorem wipe_touch {vs : List Nat} {σ σ' : L2.St} (h : Touch (fun i => i ∈ vs) (wipe σ vs) σ') : wipe σ' vs = wipe σ vs := by
  obtain ⟨h1, h2⟩ := h
  rw [wipe_length] at h1
  apply List.ext_getElem?
  intro i
  by_cases hi : i ∈ vs
  · by_cases hl : i < σ.length
    · rw [wipe_in hi (by rw [h1]; exact hl), wipe_in hi hl]
    · rw [List.getElem?_eq_none (by rw [wipe_length, h1]; omega), List.getElem?_eq_none (by rw [wipe_length]; omega)]
  · rw [wipe_out' hi, h2 i hi]
section
variable {M : Mach} {X : Cx} {N : List Str} {sc : Scope} {vb lb gb : Str → Bool} {B : Bs} {G : Sl} {O : Own} {e a b elt : Expr} {es : List Expr} {pos : Pos} {d d1 d2 : D} {ds : List D} {E : EndsD}
theorem wf_nil {Φ : Bool → Own → Prop} (h : Φ true O) : WF X B G O [] Φ := fun F σ H S Q k => ⟨fun pins s I => pts_nil.run pins s σ H Q I (k true F H O S (Same.refl _) h)⟩
theorem wf_one {Φ : Bool → Own → Prop} (h : WT X B G O e Φ) : WF X B G O [e] Φ := fun F σ H S Q k => ⟨fun pins s I => (pts_one pt_sem).run pins s σ H Q I (h F σ H S Q k)⟩
theorem wf_pv {c : Bool} {Φ : Bool → Own → Prop} (h : PTv X B G O e c) (q : Φ c O) : WF X B G O [e] Φ := wf_one (wt_pv h q)
/-- the turn of a comprehension -/
def LcTurn (M : Mach) (X : Cx) (N : List Str) (sc scope : Scope) (G : Sl) (vs : List Nat) (O : Own) (tg : Expr) (ifs : List Expr) (elt : Expr) (d : D) (Yes : D → Own → Prop) (No : Own → Prop) : Prop :=
  ∀ X' B', Blk M X N sc scope X' → WG X' B' (wipeD G vs) O tg (fun i => i ∈ vs) d fun G2 O2 => ∀ X'', Blk M X N sc scope X'' → WF X'' B' G2 O2 ifs fun b O3 => if b = true then ∀ X''', Blk M X N sc scope X''' → WE X''' B' G2 O3 elt Yes else No O3
def Lc (M : Mach) (X : Cx) (N : List Str) (sc scope : Scope) (B : Bs) (G : Sl) (O : Own) (vs : List Nat) (tg iter : Expr) (ifs : List Expr) (elt : Expr) (Φ : List D → Own → Prop) : Prop :=
  WI X B G O tg iter fun ds lk O1 => ∃ I : Nat → List D → Own → Prop, I 0 [] O1 ∧ (∀ i acc O', i ≤ ds.length → I i acc O' → ∀ p ∈ lk, p ∈ O') ∧
    (∀ i d acc O', ds[i]? = some d → I i acc O' → LcTurn M X N sc scope G vs O' tg ifs elt d (fun y O4 => acc.length < 1000000 ∧ I (i + 1) (acc ++ [y]) O4) (fun O3 => I (i + 1) acc O3)) ∧ (∀ acc O', I ds.length acc O' → Φ acc O')
theorem lc_read {scope : Scope} {own : List (Str × Nat)} {tg iter : Expr} {ifs : List Expr} {Φ : List D → Own → Prop} (C : Cxt M X N sc vb lb gb) (hb : blkC N sc scope own = true)
    (h : Lc M X N sc scope B G O (own.map (·.2)) tg iter ifs elt Φ) {F : Hp} {σ : L2.St} {H : Hp} (S : Sat X.K B G O F σ H) {Q : VK} (k : ∀ p ds F' H' O', Sat X.K B G ((p, OV.lst ds) :: O') F' σ H' → Same F F' → Φ ds O' → Q (.ref p) H') :
    tLc (tSemI X tg iter) (fun v σ H Q => ∀ X', IsBlk X scope X' → tSemG X' tg v σ H Q) (fun σ H Q => ∀ X', IsBlk X scope X' → tSemTs X' ifs σ H Q) (fun σ H Q => ∀ X', IsBlk X scope X' → tSem X' elt σ H Q) (own.map (·.2)) σ H Q := by
  refine h F σ H S _ fun J F1 H1 ds lk O1 S1 e1 j p => ?_
  obtain ⟨I, i0, il, is, id⟩ := p
  intro Dl hD
  refine ⟨fun i m H2 => m = ds.length - i ∧ i ≤ ds.length ∧ ∃ F2 acc O2, Sat X.K B G (O2 ++ [(Dl, OV.lst acc)]) F2 σ H2 ∧ Same F1 F2 ∧ I i acc O2, ⟨_, rfl, Nat.zero_le _, F1, [], O1, ?_, Same.refl _, i0⟩, ?_⟩
  · exact (S1.allocOwn hD (ov := .lst []) ⟨[], upd_same, .nil⟩).perm (List.perm_append_singleton _ _).symm
  rintro i m H2 ⟨rfl, hi, F2, acc, O2, S2, e2, p2⟩
  have lk2 := il i acc O2 hi p2
  have lk2' : ∀ p ∈ lk, p ∈ O2 ++ [(Dl, OV.lst acc)] := fun p hp => List.mem_append_left _ (lk2 p hp)
  have lk3 : ∀ p ∈ lk, ORep X.K F2 H2 p.1 p.2 := fun p hp => (S2.own p (lk2' p hp)).2
  by_cases hlt : i < ds.length
  · refine .inr ⟨j.go i F2 H2 e2 S2.ex lk3 hlt, fun H' => ∃ F2 acc O2, Sat X.K B G (O2 ++ [(Dl, OV.lst acc)]) F2 σ H' ∧ Same F1 F2 ∧ I (i + 1) acc O2, fun H' q => ⟨ds.length - (i + 1), by omega, rfl, hlt, q⟩, fun x H3 y => ?_⟩
    obtain ⟨d, F3, hd, S3, e3, r3⟩ := j.turn S2 e2 lk2' hlt y
    have Sp : Sat X.K ⟨F3, H3, keys O2⟩ (wipeD G (own.map (·.2))) O2 F3 (wipe σ (own.map (·.2))) H3 := S3.part (by rw [wipe_length, wipeD_length]; exact S3.len) fun l dd e => by
      obtain ⟨q1, q2⟩ := wipeD_some e
      rw [wipe_out' q2]
      exact S3.slot l dd q1
    have turn := is i d acc O2 hd p2
    intro X' hX'
    have b1 := blk_of C hb hX'
    have eK : X'.K = X.K := b1.C.K.trans C.K.symm
    refine turn X' _ b1 F3 _ H3 x (by rw [eK]; exact Sp) (by rw [eK]; exact r3) _ fun G4 O4 F4 σ4 H4 S4 e4 t4 p4 => ⟨wipe_touch t4, ?_⟩
    rw [eK] at S4
    intro X'' hX''
    have b2 := blk_of C hb hX''
    have eK2 : X''.K = X.K := b2.C.K.trans C.K.symm
    refine p4 X'' b2 F4 σ4 H4 (by rw [eK2]; exact S4) _ fun c F5 H5 O5 S5 e5 p5 => ?_
    rw [eK2] at S5
    cases c with
    | false =>
      rw [if_neg Bool.false_ne_true] at p5 ⊢
      exact ⟨F5, acc, O5, S3.frame S5, (e2.trans e3).trans (e4.trans e5), p5⟩
    | true =>
      rw [if_pos rfl] at p5 ⊢
      intro X''' hX'''
      have b3 := blk_of C hb hX'''
      have eK3 : X'''.K = X.K := b3.C.K.trans C.K.symm
      refine p5 X''' b3 F5 σ4 H5 (by rw [eK3]; exact S5) _ fun v F6 H6 dd O6 S6 e6 r6 p6 => ?_
      rw [eK3] at S6 r6
      have S7 := S3.frame S6
      obtain ⟨nF, vs, hv, rs⟩ := S7.own (Dl, OV.lst acc) (List.mem_append_right _ List.mem_cons_self)
      refine ⟨vs, hv, by rw [rs.length]; exact Nat.lt_of_lt_of_le p6.1 (len_line (Nat.le_refl _)), F6, acc ++ [dd], O6, ?_, ((e2.trans e3).trans (e4.trans e5)).trans e6, p6.2⟩
      refine S7.mut (ov := .lst (acc ++ [dd])) ?_ ⟨vs ++ [v], upd_same, rs.append (.cons r6 .nil)⟩
      have app : ∀ O : Own, OSet (O ++ [(Dl, OV.lst acc)]) Dl (.lst (acc ++ [dd])) (O ++ [(Dl, OV.lst (acc ++ [dd]))]) := fun O => by
        induction O with
        | nil => exact .z
        | cons a r ih => exact .s ih
      exact app O6
  · have ei : i = ds.length := by omega
    subst ei
    exact .inl ⟨j.stop F2 H2 e2 S2.ex lk3, k Dl acc F2 H2 O2 (S2.perm (List.perm_append_singleton _ _)) (e1.trans e2) (id acc O2 p2)⟩
theorem wn_lc {scope : Scope} {own : List (Str × Nat)} {tg iter : Expr} {ifs : List Expr} {Φ : List D → Own → Prop} (C : Cxt M X N sc vb lb gb) (hb : blkC N sc scope own = true) (h : Lc M X N sc scope B G O (own.map (·.2)) tg iter ifs elt Φ)
    (hs : ∀ x, foldedSetIterable iter X.env x = pure x := by intro _; rfl) : WN X B G O (.ListComp elt [⟨tg, iter, ifs, 0⟩] scope pos) Φ := fun F σ H S Q k =>
  sem (pe_lc (own := own) C.calm (by rw [C.hN]; exact C.nd) pi_sem (by rw [C.hN, C.hsc]; exact blkOk_by hb)
    (fun s H0 Cc cl fp => ⟨fun pins s2 σ2 H2 v u Q2 I r q => (q _ ⟨s, H0, cl, Cc, fp, rfl⟩).run pins s2 u I r⟩) (fun s H0 Cc cl fp => ⟨fun pins s2 σ2 H2 Q2 I q => (q _ ⟨s, H0, cl, Cc, fp, rfl⟩).run pins s2 I⟩) (fun s H0 Cc cl fp => ⟨fun pins s2 σ2 H2 Q2 I q => (q _ ⟨s, H0, cl, Cc, fp, rfl⟩).run pins s2 I⟩) hs)
    (lc_read C hb h S k)
/-- y = [..] on one line -/
theorem ws_setLc {y : Str} {i : Nat} {f : D → Sl} {py spos : Pos} {scope : Scope} {own : List (Str × Nat)} {tg iter : Expr} {ifs : List Expr} {Φ : D → Own → Prop} (C : Cxt M X N sc vb lb gb) (hy : SetAt N G y i f) (hyl : sc.names.lookup y = some .local) (hl : (py.line == pos.line) = true)
    (hn : (scope.names.any fun (n, k) => n == y && (k == .local || k == .cell)) = false) (hb : blkC N sc scope own = true)
    (h : Lc M X N sc scope B G O (own.map (·.2)) tg iter ifs elt fun ds O' => ∀ p, E.nx (f (.obj p)) ((p, .lst ds) :: O')) (hs : ∀ x, foldedSetIterable iter X.env x = pure x := by intro _; rfl) :
    WS X B G O (.Assign [.Name y py] (.ListComp elt [⟨tg, iter, ifs, 0⟩] scope pos) spos) E := fun F σ H S D' k => by
  obtain ⟨h1, h2⟩ := hy.ix
  refine semS (ps_setLc (i := i) (own := own) (wi := tSemI X tg iter) (g := fun v σ H Q => ∀ X', IsBlk X scope X' → tSemG X' tg v σ H Q) (tt := fun σ H Q => ∀ X', IsBlk X scope X' → tSemTs X' ifs σ H Q) (te := fun σ H Q => ∀ X', IsBlk X scope X' → tSem X' elt σ H Q) C.calm (by rw [C.hN]; exact C.nd) (by rw [C.hN]; exact h1) (by rw [C.hsc]; exact hyl) (sw_true C.kf (by rw [C.hsc]; exact hyl) hl hn) pi_sem (by rw [C.hN, C.hsc]; exact blkOk_by hb)
    (fun s H0 Cc cl fp => ⟨fun pins s2 σ2 H2 v u Q2 I r q => (q _ ⟨s, H0, cl, Cc, fp, rfl⟩).run pins s2 u I r⟩) (fun s H0 Cc cl fp => ⟨fun pins s2 σ2 H2 Q2 I q => (q _ ⟨s, H0, cl, Cc, fp, rfl⟩).run pins s2 I⟩) (fun s H0 Cc cl fp => ⟨fun pins s2 σ2 H2 Q2 I q => (q _ ⟨s, H0, cl, Cc, fp, rfl⟩).run pins s2 I⟩) hs) ?_
  exact lc_read C hb h S fun p ds F' H' O' S' e' q => by
    have q' := q p
    rw [h2] at q'
    exact k.nx _ _ F' _ H' (S'.set (.obj p)) e' q'
/-- a pure turn -/
structure LcPure (M : Mach) (X : Cx) (N : List Str) (sc scope : Scope) (G : Sl) (vs : List Nat) (O : Own) (tg : Expr) (ifs : List Expr) (elt : Expr) (d : D) (c : Bool) (y : D) : Prop where
  run : ∀ X' B', Blk M X N sc scope X' → WG X' B' (wipeD G vs) O tg (fun i => i ∈ vs) d fun G2 O2 => O2 = O ∧ (∀ X'', Blk M X N sc scope X'' → WF X'' B' G2 O ifs fun b O3 => b = c ∧ O3 = O) ∧ (c = true → ∀ X''', Blk M X N sc scope X''' → PEv X''' B' G2 O elt y)
theorem LcPure.turn {scope : Scope} {vs : List Nat} {tg : Expr} {ifs : List Expr} {c : Bool} {y : D} {Yes : D → Own → Prop} {No : Own → Prop} (h : LcPure M X N sc scope G vs O tg ifs elt d c y) (q1 : c = true → Yes y O) (q2 : c = false → No O) :
    LcTurn M X N sc scope G vs O tg ifs elt d Yes No := fun X' B' b F σ H v S r Q k => h.run X' B' b F σ H v S r Q fun G' O' F' σ' H' S' e' t' p => k G' O' F' σ' H' S' e' t' fun X'' b2 => by
  obtain ⟨rfl, p1, p2⟩ := p
  intro F2 σ2 H2 S2 Q2 k2
  refine p1 X'' b2 F2 σ2 H2 S2 Q2 fun bb F3 H3 O3 S3 e3 z => k2 bb F3 H3 O3 S3 e3 ?_
  obtain ⟨rfl, rfl⟩ := z
  cases bb with
  | true =>
    rw [if_pos rfl]
    exact fun X3 b3 => we_pv (p2 rfl X3 b3) (q1 rfl)
  | false =>
    rw [if_neg Bool.false_ne_true]
    exact q2 rfl
/-- a pure comprehension over data xs, told by enc -/
theorem pn_lc {α : Type} {xs : List α} {enc : α → D} {c : α → Bool} {f : α → D} {lk : Own} {scope : Scope} {own : List (Str × Nat)} {tg iter : Expr} {ifs : List Expr} (C : Cxt M X N sc vb lb gb) (hb : blkC N sc scope own = true)
    (hi : WIv X B G O tg iter (xs.map enc) lk) (hk : ∀ p ∈ lk, p ∈ O) (hl : xs.length ≤ 1000000) (ht : ∀ x ∈ xs, LcPure M X N sc scope G (own.map (·.2)) O tg ifs elt (enc x) (c x) (f x)) (hs : ∀ x, foldedSetIterable iter X.env x = pure x := by intro _; rfl) :
    PNv X B G O (.ListComp elt [⟨tg, iter, ifs, 0⟩] scope pos) ((xs.filter c).map f) := wn_lc C hb (wi_v hi ⟨fun i acc O' => O' = O ∧ acc = ((xs.take i).filter c).map f, ⟨rfl, rfl⟩, fun i acc O' _ z p hp => by rw [z.1]; exact hk p hp, fun i d acc O' hd z => by
    obtain ⟨rfl, rfl⟩ := z
    rw [List.getElem?_map] at hd
    cases e : xs[i]? with
    | none => rw [e] at hd; cases hd
    | some x =>
      rw [e] at hd
      have hd' : enc x = d := Option.some.inj hd
      subst hd'
      have tk : xs.take (i + 1) = xs.take i ++ [x] := by rw [List.take_add_one, e] <;> rfl
      have hlen : (((xs.take i).filter c).map f).length ≤ i := by
        rw [List.length_map]
        exact Nat.le_trans (List.length_filter_le _ _) (by rw [List.length_take]; exact Nat.min_le_left _ _)
      have hi' : i < xs.length := (List.getElem?_eq_some_iff.mp e).1
      refine (ht x (List.mem_of_getElem? e)).turn (fun hc => ⟨by omega, rfl, ?_⟩) (fun hc => ⟨rfl, ?_⟩)
      · rw [tk, List.filter_append, List.map_append, List.filter_cons, if_pos hc] <;> rfl
      · rw [tk, List.filter_append, List.map_append, List.filter_cons, if_neg (by rw [hc]; decide), List.filter_nil, List.map_nil, List.append_nil], fun acc O' z => by
    obtain ⟨rfl, rfl⟩ := z
    rw [List.length_map, List.take_length]
    exact ⟨rfl, rfl⟩⟩) hs
end
end Dl
set_option Elab.async false
set_option linter.all false
set_option maxRecDepth 100000
set_option maxHeartbeats 2000000
namespace Dl
open PySem PySem.Spec PyProof.Rows L2
/-- an exception: its class, its own attributes -/
structure XD where
  cls : Value
  fs : Option (List (Str × D))
def XRep (K : PySem.W.Frag) (F : Hp) (x : XD) (cls : Value) (dd : Option Addr) : Prop := cls = x.cls ∧ match x.fs with
  | none => dd = none
  | some gs => ∃ a hs, dd = some a ∧ F a = some (.xd hs) ∧ PReps K F hs gs
abbrev Xk := XD → Sl → Own → Prop
def wD (K : PySem.W.Frag) (B : Bs) (Ψ : Xk) : WX := fun cls dd σ H => ∃ x G O F, Sat K B G O F σ H ∧ XRep K F x cls dd ∧ Ψ x G O
abbrev DSp := List D → Own → (D → Own → Prop) → (XD → Own → Prop) → Prop
def liftSp (K : PySem.W.Frag) (sp : DSp) : Sp := fun vs H Q E => ∃ F O ds Φ Ψ, Sat K ⟨F, H, keys O⟩ [] O F [] H ∧ Reps K F vs ds ∧ sp ds O Φ Ψ ∧
  (∀ v F' H' d O' G σ, Sat K ⟨F, H, keys O⟩ G O' F' σ H' → Rep K F' v d → Φ d O' → Q v H') ∧ (∀ cls dd F' H' x O' G σ, Sat K ⟨F, H, keys O⟩ G O' F' σ H' → XRep K F' x cls dd → Ψ x O' → E cls dd H')
/-- the def x of the module, called with its parameters by place -/
def GFn (M : Mach) (x : Str) (k : Nat) (sp : DSp) : Prop := ∃ (f : Addr) (fd : FuncData) (ps : List Str), M.mg x = some (.ref f) ∧ PySem.W.keepIn M.K (.ref f) = true ∧ Binds M.K fd ps [] ∧ FnOk M.P M.w M.K M.mg M.base (L2N.CX M.P M.w) k f fd ps (liftSp M.K sp)
/-- .. with the keywords ks behind -/
def kwJoin {α β : Type} (ks : List β) (us ws : List α) : List α := if ws.length = ks.length then us ++ ws else []
def GFnK (M : Mach) (x : Str) (ks : List Str) (k : Nat) (sp : DSp) : Prop := ∃ (f : Addr) (fd : FuncData) (ps : List Str), M.mg x = some (.ref f) ∧ PySem.W.keepIn M.K (.ref f) = true ∧ KBinds M.K fd ps ks (kwJoin ks) (kwJoin ks) ∧ FnOk M.P M.w M.K M.mg M.base (L2N.CX M.P M.w) k f fd ps (liftSp M.K sp)
theorem GFn.mono {M : Mach} {x : Str} {j k : Nat} {sp : DSp} (h : GFn M x j sp) (l : j ≤ k) : GFn M x k sp := by
  obtain ⟨f, fd, ps, h1, h2, h3, h4⟩ := h
  exact ⟨f, fd, ps, h1, h2, h3, h4.mono l⟩
section
variable {X : Cx} {CX : CXT} {k : Nat} {f : Addr} {fd : FuncData} {ps ks : List Str} {sp : Sp} {E : L2.St → XK} {x : Str} {p pos : Pos} {e : Expr} {es : List Expr} {kws : List Keyword} {t tk : TA} {g : List Value → List Value → List Value} {gV : List V → List V → List V}
def tCallKD (sp : Sp) (gV : List V → List V → List V) (E : L2.St → XK) (t tk : TA) : TE := fun σ H Q => t σ H fun vs H1 => tk σ H1 fun zs H2 => sp (gV vs zs) H2 Q (E σ)
theorem run_fnKD {pins : List (Addr × Obj)} {σ : L2.St} {H : Hp} {s : Shared} {Q : VK} {us ws : List Value} {vs zs : List V} (F : FnOk X.prog X.w X.K X.mg X.base CX k f fd ps sp) (hr : Room k X.A) (hb : KBinds X.K fd ps ks g gV) (hx : PassesAt CX X σ (E σ))
    (I : Inv X pins σ H s) (r : Vals vs us) (rz : Vals zs ws) (h : sp (gV vs zs) H Q (E σ)) : wpAny (model X.prog X.w) X.A (call (.ref f) us (ks.zip ws)) (EP X pins σ Q) X.xe s := by
  have r2 := hb.rel r rz
  have hl : (g us ws).length = ps.length := by rw [← r2.length]; exact F.len _ _ _ _ h
  refine wpAny_call (codeAny_mono (F.run X.A X.stack s H ⟨us, ks.zip ws⟩ (g us ws) (gV vs zs) Q (E σ) hr I.env0 (hb.to s us ws I.kIn hl) r2 h) fun r s' hq => ?_)
  cases r with
  | error e => exact hx pins H s e s' I hq
  | ok fl =>
    cases fl with
    | ret u => exact I.after hq
    | next => exact False.elim hq
    | brk => exact False.elim hq
    | cont => exact False.elim hq
theorem pe_callKD (F : FnOk X.prog X.w X.K X.mg X.base CX k f fd ps sp) (hr : Room k X.A) (hg : Gl X x) (hm : X.mg x = some (.ref f)) (hk : PySem.W.keepIn X.K (.ref f) = true) (hb : KBinds X.K fd ps ks g gV) (hx : ∀ σ, PassesAt CX X σ (E σ))
    (ha : PA X (e :: es) t) (hkw : PK X kws tk) (hall : (backToKw pos (keywordEach kws X.env)).all (·.1.isSome) = true := by rfl) (hks : (backToKw pos (keywordEach kws X.env)).filterMap (·.1) = ks := by rfl)
    (hdb : (x == ("__debug__" : Str)) = false := by decide) (he : starEach (e :: es) X.env = (false, eval e X.env) :: starEach es X.env := by exact star_cons rfl)
    (hpl : ((backTo pos (starEach (e :: es) X.env)).any (·.1) || (backToKw pos (keywordEach kws X.env)).any (·.1.isNone)) = false := by rfl) :
    PE X (.Call (.Name x p) (e :: es) kws pos) (tCallKD sp gV E t tk) := by
  refine ⟨fun pins s σ H Q I h => ?_⟩
  refine wpAny_Call_Name_kw (ld_glob I hg hm ?_ hdb)
  refine PySem.W.callWith_KW (h₀ := X.base) I.ok.mod.kin hk hall (thn (ha.run pos pins s σ H _ I h) fun us s1 ⟨vs, H1, I1, r, q⟩ => ?_) hpl he
  refine thn (hkw.run pos pins s1 σ H1 _ I1 q) fun ws s2 ⟨zs, H2, I2, rz, q2⟩ => ⟨I2.kIn, ?_⟩
  rw [hks]
  exact run_fnKD F hr hb (hx σ) I2 r rz q2
end
section
variable {M : Mach} {X : Cx} {N : List Str} {sc : Scope} {vb lb gb : Str → Bool} {B : Bs} {G : Sl} {O : Own} {e a b : Expr} {es : List Expr} {pos p : Pos} {d : D} {ds : List D} {x : Str} {k : Nat} {sp : DSp} {Ψ : Xk}
/-- what a call asks behind its arguments -/
def DPost (sp : DSp) (G : Sl) (Φ : D → Own → Prop) (Ψ : Xk) (ds : List D) (O1 : Own) : Prop := ∃ Oa Ob, O1.Perm (Oa ++ Ob) ∧ sp ds Oa (fun d O' => Φ d (O' ++ Ob)) fun y O' => Ψ y G (O' ++ Ob)
theorem post_run {Φ : D → Own → Prop} {F1 H1 : Hp} {σ : L2.St} {O1 : Own} {vs : List V} {Q : VK} {K : PySem.W.Frag} (S1 : Sat K B G O1 F1 σ H1) (r1 : Reps K F1 vs ds) (p1 : DPost sp G Φ Ψ ds O1)
    (k : ∀ v F' H' d O', Sat K B G O' F' σ H' → Same F1 F' → Rep K F' v d → Φ d O' → Q v H') : liftSp K sp vs H1 Q (fun cls dd H => wD K B Ψ cls dd σ H) := by
  obtain ⟨Oa, Ob, hp, h⟩ := p1
  have S2 := S1.perm hp
  refine ⟨F1, Oa, ds, _, _, S2.part (Gs := []) (τ := []) rfl (fun i d e => by simp at e), r1, h, fun v F' H' d O' G' σ' S' r' q' => ?_, fun cls dd F' H' y O' G' σ' S' xr q' => ?_⟩
  · exact k v F' H' d (O' ++ Ob) (S2.frame S') S'.bF r' q'
  · exact ⟨y, G, O' ++ Ob, F', S2.frame S', xr, q'⟩
theorem we_call {Φ : D → Own → Prop} (C : Cxt M X N sc vb lb gb) (f : GFn M x k sp) (hr : Room k X.A) (tk : L2N.Takes X (wD X.K B Ψ)) (hg : gb x = true) (h : WA X B G O (e :: es) (DPost sp G Φ Ψ))
    (he : starEach (e :: es) X.env = (false, eval e X.env) :: starEach es X.env := by exact star_cons rfl) (hpl : (backTo pos (starEach es X.env)).any (·.1) = false := by rfl) : WE X B G O (.Call (.Name x p) (e :: es) [] pos) Φ := fun F σ H S Q kk => by
  obtain rfl := C.hM
  obtain ⟨f, fd, ps, h1, h2, h3, h4⟩ := f
  refine sem (pe_callS (E := fun σ cls dd H => wD X.K B Ψ cls dd σ H) h4 hr (C.gl x hg).1 h1 h2 h3 (fun σ => L2N.passAt tk σ) pa_sem (C.gl x hg).2 he hpl) ?_
  refine h F σ H S _ fun vs F1 H1 ds O1 S1 e1 r1 p1 => ?_
  exact post_run S1 r1 p1 fun v F' H' d O' S' e' r' q' => kk v F' H' d O' S' (e1.trans e') r' q'
theorem we_call0 {Φ : D → Own → Prop} (C : Cxt M X N sc vb lb gb) (f : GFn M x k sp) (hr : Room k X.A) (tk : L2N.Takes X (wD X.K B Ψ)) (hg : gb x = true) (h : DPost sp G Φ Ψ [] O) : WE X B G O (.Call (.Name x p) [] [] pos) Φ := fun F σ H S Q kk => by
  obtain rfl := C.hM
  obtain ⟨f, fd, ps, h1, h2, h3, h4⟩ := f
  refine ⟨fun pins s I => ?_⟩
  refine wpAny_Call_Name_kw (ld_glob I (C.gl x hg).1 h1 ?_ (C.gl x hg).2)
  exact PySem.W.callWith_K0 I.kIn h2 (run_fnS (us := []) (E := fun σ cls dd H => wD X.K B Ψ cls dd σ H) h4 hr h3 (L2N.passAt tk σ) I .nil (post_run S .nil h fun v F' H' d O' S' e' r' q' => kk v F' H' d O' S' e' r' q'))
/-- keywords -/
structure tSemK (X : Cx) (kws : List Keyword) (σ : L2.St) (H : Hp) (Q : List V → Hp → Prop) : Prop where
  run : ∀ (pos : Pos) (pins : List (Addr × Obj)) (s : Shared), Inv X pins σ H s → wpAny (model X.prog X.w) X.A (evalAll ((backToKw pos (keywordEach kws X.env)).map (·.2))) (AP X pins σ Q) X.xe s
theorem pk_sem {kws : List Keyword} : PK X kws (tSemK X kws) := ⟨fun pos pins s _ _ _ I h => h.run pos pins s I⟩
def WK (X : Cx) (B : Bs) (G : Sl) (O : Own) (kws : List Keyword) (Φ : List D → Own → Prop) : Prop := ∀ F σ H, Sat X.K B G O F σ H → ∀ Q : List V → Hp → Prop, (∀ vs F' H' ds O', Sat X.K B G O' F' σ H' → Same F F' → Reps X.K F' vs ds → Φ ds O' → Q vs H') → tSemK X kws σ H Q
theorem wk_nil {Φ : List D → Own → Prop} (q : Φ [] O) : WK X B G O [] Φ := fun F σ H S Q k => ⟨fun pos pins s I => pk_nil.run pos pins s σ H Q I (k [] F H [] O S (Same.refl _) .nil q)⟩
theorem wk_cons {nm : Option Str} {kpos : Pos} {kws : List Keyword} {Φ : List D → Own → Prop} (h : WE X B G O e fun d O1 => WK X B G O1 kws fun ds O2 => Φ (d :: ds) O2) : WK X B G O (⟨nm, e, kpos⟩ :: kws) Φ := fun F σ H S Q k => ⟨fun pos pins s I =>
  (pk_cons pe_sem pk_sem).run pos pins s σ H Q I (h F σ H S _ fun v F1 H1 d O1 S1 e1 r1 p1 => p1 F1 σ H1 S1 _ fun vs F2 H2 ds O2 S2 e2 r2 p2 => k _ F2 H2 _ O2 S2 (e1.trans e2) (.cons (r1.mono e2) r2) p2)⟩
theorem we_callK {ks : List Str} {kws : List Keyword} {Φ : D → Own → Prop} (C : Cxt M X N sc vb lb gb) (f : GFnK M x ks k sp) (hr : Room k X.A) (tk : L2N.Takes X (wD X.K B Ψ)) (hg : gb x = true) (h : WA X B G O (e :: es) fun ds O1 => WK X B G O1 kws fun zs O2 => zs.length = ks.length ∧ DPost sp G Φ Ψ (ds ++ zs) O2)
    (hall : (backToKw pos (keywordEach kws X.env)).all (·.1.isSome) = true := by rfl) (hks : (backToKw pos (keywordEach kws X.env)).filterMap (·.1) = ks := by rfl)
    (he : starEach (e :: es) X.env = (false, eval e X.env) :: starEach es X.env := by exact star_cons rfl) (hpl : ((backTo pos (starEach (e :: es) X.env)).any (·.1) || (backToKw pos (keywordEach kws X.env)).any (·.1.isNone)) = false := by rfl) : WE X B G O (.Call (.Name x p) (e :: es) kws pos) Φ := fun F σ H S Q kk => by
  obtain rfl := C.hM
  obtain ⟨f, fd, ps, h1, h2, h3, h4⟩ := f
  refine sem (pe_callKD (E := fun σ cls dd H => wD X.K B Ψ cls dd σ H) h4 hr (C.gl x hg).1 h1 h2 h3 (fun σ => L2N.passAt tk σ) pa_sem pk_sem hall hks (C.gl x hg).2 he hpl) ?_
  refine h F σ H S _ fun vs F1 H1 ds O1 S1 e1 r1 p1 => ?_
  refine p1 F1 σ H1 S1 _ fun zs F2 H2 es O2 S2 e2 r2 ⟨pl, p2⟩ => ?_
  have ej : kwJoin ks vs zs = vs ++ zs := if_pos (by rw [r2.length, pl])
  rw [ej]
  exact post_run S2 ((r1.mono e2).append r2) p2 fun v F' H' d O' S' e' r' q' => kk v F' H' d O' S' ((e1.trans e2).trans e') r' q'
/-- a call in which nothing is raised -/
theorem takes_no : L2N.Takes X (wD X.K B fun _ _ _ => False) := fun u s' ⟨a, Bb, sI, pins, σ, H, cls, d, e, I, nb, up, sky, na, os, ag, w⟩ => by
  obtain ⟨_, _, _, _, _, _, w⟩ := w
  exact w.elim
end
def startD (N : List Str) (ds : List D) : Sl := ds.map some ++ List.replicate (N.length - ds.length) none
def defB (sc : Scope) (N gl : List Str) : Bool := (N.all fun x => visB sc x && locB sc x) && gl.all fun x => glB sc x
theorem vis_of {sc : Scope} {x : Str} (h : visB sc x = true) : Vis sc x ∧ (x == ("__debug__" : Str)) = false ∧ (x == ("__classdict__" : Str)) = false := by
  unfold visB at h
  rw [Bool.and_eq_true, Bool.and_eq_true] at h
  obtain ⟨⟨h1, h2⟩, h3⟩ := h
  refine ⟨?_, by simpa using h2, by simpa using h3⟩
  split at h1
  · exact .inl (by assumption)
  · exact .inr (.inl (by assumption))
  · exact .inr (.inr (by assumption))
  · cases h1
theorem loc_of {sc : Scope} {x : Str} (h : locB sc x = true) : L2.Loc sc x := by
  unfold locB at h
  split at h
  · exact .inl (by assumption)
  · exact .inr (by assumption)
  · cases h
theorem gl_of {sc : Scope} {x : Str} (h : glB sc x = true) : sc.names.lookup x = some .globalImplicit ∧ (x == ("__debug__" : Str)) = false := by
  unfold glB at h
  rw [Bool.and_eq_true] at h
  obtain ⟨h1, h2⟩ := h
  refine ⟨?_, by simpa using h2⟩
  split at h1
  · assumption
  · cases h1
structure Frm (X : Cx) : Prop where
  st : X.stack = X.env :: X.outer
  fr : X.env.frame = some X.env.locals
/-- what a def's body is walked with -/
structure Body (M : Mach) (X : Cx) (B : Bs) (N vn gl : List Str) (sc : Scope) (k : Nat) (Ψ : XD → Own → Prop) : Prop where
  C : Cxt M X N sc (fun x => vn.contains x) (fun x => vn.contains x) (fun x => gl.contains x)
  r : Room k X.A
  tk : L2N.Takes X (wD X.K B fun x _ O => Ψ x O)
  fr : Frm X
theorem contains_mem {l : List Str} {x : Str} (h : l.contains x = true) : x ∈ l := List.contains_iff_mem.mp h
theorem fun_okN {P : Program} {w : World} {K : PySem.W.Frag} {mg : Str → Option Value} {base : Heap} {x qual : Str} {st : Stmt} {f : Addr} {fd : FuncData} {N ps : List Str} {k : Nat} {sp : Sp} {CX : CXT} (F : Fun K x qual st f fd) (S : FnScope N ps (defScope st)) (len : ∀ vs H Q E, sp vs H Q E → vs.length = ps.length)
    (hbody : ∀ (cdv : Value), fd.code = cdv → ∀ (A : Around) (outer : List Env) (s : Shared) (H : Hp) (vs : List V) (Q : VK) (E : XK), Room k (A.deeper (envOfC qual (defScope st) s.heap.objs.size f cdv)) → sp vs H Q E →
      ∃ t, PSs (cxOf CX P w K mg base N qual (defScope st) f cdv A outer s H E) (defBody st) t ∧ t { nx := fun _ H' => Q .non H', rt := Q } (L2.start N vs) H) : FnOk P w K mg base CX (k + 1) f fd ps sp := by
  obtain ⟨oc, od, kV, doc, pm, an, cdv, ct, osl, rfl, lk, hcd⟩ := F.ex
  exact fn_of lk hcd S len fun A outer s H vs Q E hr hsp => hbody cdv rfl A outer s H vs Q E hr hsp
/-- .. told of the frame too -/
theorem fn_bodyC {M : Mach} {x qual : Str} {st : Stmt} {f : Addr} {fd : FuncData} {N vn ps gl : List Str} {k : Nat} {sp : DSp} (F : Fun M.K x qual st f fd) (S : FnScope N ps (defScope st)) (hb : defB (defScope st) vn gl = true) (len : ∀ ds O Φ Ψ, sp ds O Φ Ψ → ds.length = ps.length)
    (body : ∀ (X : Cx) (B : Bs) (ds : List D) (O : Own) (Φ : D → Own → Prop) (Ψ : XD → Own → Prop), Body M X B N vn gl (defScope st) k Ψ → (∃ L, X.env = envOfC qual (defScope st) L f fd.code) → sp ds O Φ Ψ → WSs X B (startD N ds) O (defBody st) (EndsD.fn Φ)) :
    FnOk M.P M.w M.K M.mg M.base (L2N.CX M.P M.w) (k + 1) f fd ps (liftSp M.K sp) := by
  unfold defB at hb
  rw [Bool.and_eq_true, List.all_eq_true, List.all_eq_true] at hb
  obtain ⟨hb1, hb2⟩ := hb
  refine fun_okN F S (fun vs H Q E h => ?_) (fun cdv hcd A outer s H vs Q E hr h => ?_)
  · obtain ⟨F, O, ds, Φ, Ψ, _, r, h, _⟩ := h
    rw [r.length]
    exact len _ _ _ _ h
  · obtain ⟨F0, O, ds, Φ, Ψ, S0, rs, hs, q1, q2⟩ := h
    have hlen : vs.length = ds.length := rs.length
    have bd : Body M (cxOf (L2N.CX M.P M.w) M.P M.w M.K M.mg M.base N qual (defScope st) f cdv A outer s H E) ⟨F0, H, keys O⟩ N vn gl (defScope st) k Ψ := by
      refine ⟨⟨rfl, rfl, rfl, S.kind, S.nd, rfl, passes_of rfl, hr.units, fun y hy => ?_, fun y hy => ?_, fun y hy => ?_⟩, hr, ?_, rfl, rfl⟩
      · have z := hb1 y (contains_mem hy)
        rw [Bool.and_eq_true] at z
        exact vis_of z.1
      · have z := hb1 y (contains_mem hy)
        rw [Bool.and_eq_true] at z
        exact ⟨loc_of z.2, .inl rfl⟩
      · exact gl_of (hb2 y (contains_mem hy))
      · refine (L2N.takes_of rfl rfl rfl rfl).imp fun cls dd σ H' w => ?_
        obtain ⟨y, G, O', F', S', xr, w⟩ := w
        exact q2 cls dd F' H' y O' G σ S' xr w
    refine ⟨_, pss_sem, ?_⟩
    refine body _ _ ds O Φ Ψ bd ⟨s.heap.objs.size, by rw [hcd]; rfl⟩ hs F0 (L2.start N vs) H ⟨?_, fun i d e => ?_, S0.ex, S0.nd, S0.own, S0.bF, S0.bH⟩ _ ⟨fun G' O' F' σ' H' S' e' p => q1 .non F' H' .non O' G' σ' S' .non p, fun G' O' F' σ' H' v d S' e' r' p => q1 v F' H' d O' G' σ' S' r' p, fun _ _ _ _ _ _ _ p => p.elim, fun _ _ _ _ _ _ _ p => p.elim⟩
    · unfold L2.start startD
      rw [List.length_append, List.length_append, List.length_map, List.length_map, List.length_replicate, List.length_replicate, hlen]
    · unfold startD at e
      unfold L2.start
      by_cases hi : i < ds.length
      · rw [List.getElem?_append_left (by rw [List.length_map]; exact hi), List.getElem?_map] at e
        cases e2 : ds[i]? with
        | none => rw [e2] at e; cases e
        | some d' =>
          rw [e2] at e
          cases e
          obtain ⟨v, h1, h2⟩ := rs.get e2
          refine ⟨v, ?_, h2⟩
          rw [List.getElem?_append_left (by rw [List.length_map, hlen]; exact hi), List.getElem?_map, h1] <;> rfl
      · rw [List.getElem?_append_right (by rw [List.length_map]; omega), List.getElem?_replicate] at e
        split at e <;> cases e
theorem fn_body {M : Mach} {x qual : Str} {st : Stmt} {f : Addr} {fd : FuncData} {N vn ps gl : List Str} {k : Nat} {sp : DSp} (F : Fun M.K x qual st f fd) (S : FnScope N ps (defScope st)) (hb : defB (defScope st) vn gl = true) (len : ∀ ds O Φ Ψ, sp ds O Φ Ψ → ds.length = ps.length)
    (body : ∀ (X : Cx) (B : Bs) (ds : List D) (O : Own) (Φ : D → Own → Prop) (Ψ : XD → Own → Prop), Body M X B N vn gl (defScope st) k Ψ → sp ds O Φ Ψ → WSs X B (startD N ds) O (defBody st) (EndsD.fn Φ)) :
    FnOk M.P M.w M.K M.mg M.base (L2N.CX M.P M.w) (k + 1) f fd ps (liftSp M.K sp) := fn_bodyC F S hb len fun X B ds O Φ Ψ bd _ h => body X B ds O Φ Ψ bd h
theorem kbinds_mk {K : PySem.W.Frag} {fd : FuncData} {ps ks : List Str} (n : Nat) (hn : ps.length = n + ks.length) (h0 : 0 < ps.length) (h : ∀ us ws : List Value, us.length = n → ws.length = ks.length → bindArgs fd ⟨us, ks.zip ws⟩ = pure (ps.zip (us ++ ws))) : KBinds K fd ps ks (kwJoin ks) (kwJoin ks) where
  to := fun s us ws _ hl => by
    unfold kwJoin at hl ⊢
    by_cases c : ws.length = ks.length
    · rw [if_pos c, List.length_append] at hl
      rw [if_pos c]
      exact .of_eq (h us ws (by omega) c)
    · rw [if_neg c, List.length_nil] at hl
      omega
  rel := fun {vs us zs ws} r1 r2 => by
    unfold kwJoin
    rw [r2.length]
    split
    · exact r1.append r2
    · exact .nil
theorem gfnK_mk {M : Mach} {x qual : Str} {st : Stmt} {f : Addr} {fd : FuncData} {ps ks : List Str} {k : Nat} {sp : DSp} (hm : M.mg x = some (.ref f)) (F : Fun M.K x qual st f fd) (b : KBinds M.K fd ps ks (kwJoin ks) (kwJoin ks)) (h : FnOk M.P M.w M.K M.mg M.base (L2N.CX M.P M.w) k f fd ps (liftSp M.K sp)) : GFnK M x ks k sp := ⟨f, fd, ps, hm, F.kp, b, h⟩
theorem GFnK.mono {M : Mach} {x : Str} {ks : List Str} {j k : Nat} {sp : DSp} (h : GFnK M x ks j sp) (l : j ≤ k) : GFnK M x ks k sp := by
  obtain ⟨f, fd, ps, h1, h2, h3, h4⟩ := h
  exact ⟨f, fd, ps, h1, h2, h3, h4.mono l⟩
theorem gfn_mk {M : Mach} {x qual : Str} {st : Stmt} {f : Addr} {fd : FuncData} {ps : List Str} {k : Nat} {sp : DSp} (hm : M.mg x = some (.ref f)) (F : Fun M.K x qual st f fd) (b : Binds M.K fd ps []) (h : FnOk M.P M.w M.K M.mg M.base (L2N.CX M.P M.w) k f fd ps (liftSp M.K sp)) : GFn M x k sp := ⟨f, fd, ps, hm, F.kp, b, h⟩
end Dl
set_option Elab.async false
set_option linter.all false
set_option maxRecDepth 100000
set_option maxHeartbeats 2000000
namespace Dl
open PySem PySem.Spec PyProof.Rows L2
set_option maxHeartbeats 4000000 in
theorem meets_enum1 {v : Value} {o : Obj} {H : Heap → Prop} (B : Begins v o H) :
    Meets (Builtin.«enumerate.__new__» ⟨[.type "enumerate", v], []⟩) (fun _ R s => H s.heap ∧
      R (.ok (.ret (.ref (s.heap.push o).objs.size))) { s with heap := (s.heap.push o).push { cls := .type "enumerate", data := .fields #[.none, .bool false, .ref s.heap.objs.size, rawInt 0, .none, .none] } }) :=
  .of_wp fun prog w A R s h => by
    obtain ⟨hp, g, d, tk, os⟩ := s; obtain ⟨h1, h⟩ := h
    have hsub := sub_enumerate
    have q1 : ∀ {A' : Around} {E : Value → Shared → Prop} {Q : Value → Shared → Prop}, Q (.ref hp.objs.size) ⟨hp.push o, g, d, tk, os⟩ → wpAny (model prog w) A' (pyIter v) Q E ⟨hp, g, d, tk, os⟩ :=
      fun q => B.iter prog w _ _ ⟨hp, g, d, tk, os⟩ _ h1 q
    wp_walk using q1
    refine wpAny_stack_any fun st => wpAny_pure ?_
    split
    · rename_i c _ _ _ _ _
      cases (c == Value.type "enumerate")
      · wp_walk using q1
        exact ⟨_, rfl, h⟩
      · wp_walk using q1
        exact ⟨_, rfl, h⟩
    · wp_walk using q1
      exact ⟨_, rfl, h⟩
theorem call_enum1 {prog : Program} {w : World} {A : Around} {E : Value → Shared → Prop} {s : Shared} {v : Value} {o : Obj} {H : Heap → Prop} {Q : Value → Shared → Prop} (B : Begins v o H) (h1 : H s.heap)
    (h : ∀ h', IsEnum h' (s.heap.objs.size + 1) s.heap.objs.size 0 .none → h'.get? s.heap.objs.size = some o → h'.objs.size = s.heap.objs.size + 2 →
      (∀ b o, s.heap.get? b = some o → h'.get? b = some o) → Q (.ref (s.heap.objs.size + 1)) { s with heap := h' }) :
    wpAny (model prog w) A (call (.type "enumerate") [v]) Q E s := by
  refine callType_new F.called_enumerate (by decide) (F.typeCall_enumerate_1 _) (F.newCall_enumerate_1 _) (fun obj => F.args_object_init_2 obj _) F.entry_enumerate_new (meets_enum1 B) ⟨h1, ?_⟩
  have hz : (s.heap.push o).objs.size = s.heap.objs.size + 1 := Heap.size_push ..
  show _ ∧ _
  rw [hz]
  have he : IsEnum ((s.heap.push o).push { cls := .type "enumerate", data := .fields #[.none, .bool false, .ref s.heap.objs.size, rawInt 0, .none, .none] }) (s.heap.objs.size + 1) s.heap.objs.size 0 .none := by
    have := Heap.get?_push_size (s.heap.push o) (o := { cls := .type "enumerate", data := .fields #[.none, .bool false, .ref s.heap.objs.size, rawInt 0, .none, .none] }) rfl
    rw [hz] at this; exact this
  refine ⟨⟨_, he, rfl⟩, h _ he (Heap.get?_push_of_some _ (Heap.get?_push_size _ B.free)) (by rw [Heap.size_push, hz]) fun b o x => Heap.get?_push_of_some _ (Heap.get?_push_of_some _ x)⟩
theorem wpAny_pyNext_enum_endT {prog : Program} {w : World} {A : Around} {E : Value → Shared → Prop} {s : Shared} {e it l : Addr} {i : Nat} {items : Array Value} {old : Value} {Q : Option Value → Shared → Prop} (hh : A.handled = none)
    (he : IsEnum s.heap e it i old) (hit : s.heap.IsTupleIter it l i) (hl : s.heap.IsTuple l items) (hx : items[i]? = none)
    (hQ : ∀ h', Heap.ExtBut it s.heap h' → Q none { s with heap := h' }) : wpAny (model prog w) A (pyNext (.ref e)) Q E s := by
  have hT : s.TypeIs (.ref e) "enumerate" := ⟨_, he, rfl⟩
  unfold pyNext
  refine wpAny_bind (wpAny_attempt (wpAny_callSpecial?_slot (name := Str.ofString "__next__") hT F.slot_enumerate_next
    (wpAny_call_entry F.slot_enumerate_next hT F.entry_enumerate_next ?_ (F.args_enumerate_next_1 _))))
  show wpAny _ _ (field (.ref e) 2 >>= _) _ _ _
  refine wpAny_bind (wpAny_field he rfl (x := .ref it) rfl ?_)
  refine wpAny_bind (wpAny_nextOf_tuple_end hh hit hl hx fun h' x he' hx' => ?_)
  obtain ⟨o, ho, hc⟩ := hx'
  refine wpAny_bind (wpAny_isInstance (T := "StopIteration") (b := true) ⟨o, ho, hc⟩ isSubtype_stop ?_)
  exact wpAny_pure (hQ _ he')
/-- a tuple's items with their places, in new pairs -/
def IteT (K : PySem.W.Frag) (a : Addr) : It :=
  ⟨fun i H => ∃ (xs : List V) (x : V), SqT K H a xs ∧ xs[i]? = some x, fun i H v H' => ∃ T x, v = .ref T ∧ H T = none ∧ H' = upd H T (.tup [.int (i : Nat), x]) ∧ ∀ xs, SqT K H a xs → xs[i]? = some x, fun i H => ∃ xs : List V, SqT K H a xs ∧ xs.length ≤ i⟩
theorem turn_enumT {P : Program} {w : World} {K : PySem.W.Frag} {elts : List Expr} {kk : Nat} {tpos : Pos} (a e it : Addr) :
    Turn P w K (.Tuple elts kk tpos) (IteT K a) [e, it] e (fun i h => (∃ old, IsEnum h e it ((i : Nat) : Int) old) ∧ h.IsTupleIter it a i ∧ e ≠ it ∧ a ≠ it ∧ e ≠ a) where
  mem := by simp
  obj := fun i h st b hb => by
    obtain ⟨⟨old, he⟩, ⟨o, ho, hc, hd⟩, _⟩ := st
    have e' : b = e ∨ b = it := by simpa using hb
    rcases e' with z | z
    · rw [z]; exact ⟨_, he, fun v q => nomatch q⟩
    · rw [z]; exact ⟨o, ho, fun v q => by rw [hd] at q; cases q⟩
  keep := fun i h h' st k => let ⟨⟨old, he⟩, hi, hne⟩ := st; ⟨⟨old, k e (by simp) _ he⟩, hi.at fun o q => k it (by simp) o q, hne⟩
  item := by
    intro X hP hw hK hc i pins s σ H E I hf st hg
    subst hP hw hK
    obtain ⟨⟨old, he⟩, hit, hne, hai, hea⟩ := st
    obtain ⟨xs, x, hq, hx⟩ := hg
    obtain ⟨its, rv, p, hz⟩ := I.tuple hq
    obtain ⟨u, hu, ru⟩ := rv.get hx
    have hel : e < s.heap.objs.size := Heap.lt_size he
    have hil : it < s.heap.objs.size := by obtain ⟨_, q, _⟩ := hit; exact Heap.lt_size q
    have hlen : i < its.toArray.size := by
      have := (List.getElem?_eq_some_iff.mp hu).1
      simpa using this
    have Dd := Draws.tuple (prog := X.prog) (w := X.w) (A := X.A.in1) (I.ok.hd hc) it a hai its.toArray
    refine wpAny_pyNext_enum_itemD Dd he ⟨hit, show s.heap.IsTuple a its.toArray from p⟩ hlen hne (by simp; exact ⟨hne, hea⟩) fun y h' tk hP ho hit' hT hsz hk => ?_
    have hy : y = u := by
      have z : its.toArray[i]? = some u := by simpa using hu
      rw [z] at hP
      exact (Option.some.inj hP).symm
    subst hy
    refine ⟨_, rfl, wpAny_letOwnedTupleGo_enum (s := { s with heap := h', toks := tk + 1 }) ho fun h'' he' sb => ?_⟩
    have hT2 : h''.get? s.heap.objs.size = some { cls := .type "tuple", data := .seq #[.int i tk, y] } := (sb.2 _ (Nat.ne_of_gt hel)).trans hT
    have new : ObjOk X.prog X.w (upd H s.heap.objs.size (.tup [.int (i : Nat), x])) h'' s.heap.objs.size (.tup [.int (i : Nat), x]) :=
      ⟨by show 2 ≤ sizeLine; decide, [.int i tk, y], .cons ⟨_, rfl⟩ (.cons ru .nil), ⟨_, hT2, rfl, _, rfl⟩⟩
    have I1 : Inv X pins σ (upd H s.heap.objs.size (.tup [.int (i : Nat), x])) { s with heap := h'', toks := tk + 1 } :=
      I.turnedNew (ch := [e, it]) (fun b ob hb q => (sb.2 b (fun z => hb (by simp [z]))).trans (hk b ob (fun z => hb (by simp [z])) (fun z => hb (by simp [z])) q)) hf (Nat.le_refl _) new
    refine ⟨.ref s.heap.objs.size, _, I1, rfl, ⟨_, x, rfl, I.hok.fresh (Nat.le_refl _), rfl, fun ys hy => by rw [I.tuple_inj hy hq]; exact hx⟩, ⟨⟨y, ?_⟩, hit'.1.at fun o q => (sb.2 it (Ne.symm hne)).trans q, hne, hai, hea⟩, fun b hb => ?_⟩
    · have e1 : ((i + 1 : Nat) : Int) = (i : Int) + 1 := by omega
      rw [e1]; exact he'
    · have hb' : b < s.heap.objs.size := by
        have e' : b = e ∨ b = it := by simpa using hb
        rcases e' with z | z
        · rw [z]; exact hel
        · rw [z]; exact hil
      rw [upd_ne (Nat.ne_of_lt hb')]
      exact (hf b hb).1
  done := by
    intro X hP hw hK hc i pins s σ H E I hf st hg
    subst hP hw hK
    obtain ⟨⟨old, he⟩, hit, hne, hai, hea⟩ := st
    obtain ⟨xs, hq, hx⟩ := hg
    obtain ⟨its, rv, p, hz⟩ := I.tuple hq
    obtain ⟨f0, f1, f2, f3, f4, f5⟩ := hf it (by simp)
    have hl := rv.length
    have tp : s.heap.IsTuple a its.toArray := p
    have Dd := Draws.tuple (prog := X.prog) (w := X.w) (A := X.A.in1) (I.ok.hd hc) it a hai its.toArray
    -- behind the end the iterator's place does not matter: it has gone through all
    exact wpAny_pyNext_enum_endT (I.ok.hd hc) he hit tp (by simp; omega) fun h' eb => ⟨rfl, I.turned (t' := s.toks) (fun b o hb q => eb b o hb q) f0 f1 f3 f4 f5⟩
  self := fun A i s Q E st h => let ⟨⟨_, he⟩, _⟩ := st; wpAny_pyIter_enum he h
def iEnumT (K : PySem.W.Frag) (ta : TA) : TI := fun σ H R => ta σ H fun vs H1 => ∃ a xs, vs = [.ref a] ∧ SqT K H1 a xs ∧ R (IteT K a) H1
theorem pi_enumT {X : Cx} {e : Expr} {ta : TA} {p pos tpos : Pos} {elts : List Expr} {kk : Nat} (hg : Gl X "enumerate") (hm : X.mg "enumerate" = none) (ha : PA X [e] ta) (hs : starEach [e] X.env = [(false, eval e X.env)] := by rfl) :
    PI X (.Tuple elts kk tpos) (.Call (.Name "enumerate" p) [e] [] pos) (iEnumT X.K ta) := by
  refine ⟨fun pins s σ H R I h => ?_⟩
  refine Call_ (ld_blt I hg hm boot_enumerate (PyProof.Rows.callWith_type1 (thn (ha.run pos pins s σ H _ I h) fun us s1 ⟨vs, H1, I1, r1, q1⟩ => ?_) hs rfl))
  obtain ⟨a, xs, ex, hq, q⟩ := q1
  subst ex
  cases r1 with
  | cons r rr =>
    cases rr
    cases r
    obtain ⟨its, rv, p', hz⟩ := I1.tuple hq
    have hal : a < s1.heap.objs.size := p'.lt
    refine call_enum1 (begins_tuple a its.toArray) (show s1.heap.IsTuple a its.toArray from p') fun h' he hit hsz hk => wpAny_pyIter_enum he ?_
    have I2 : Inv X pins σ H1 { s1 with heap := h' } := I1.kept (t' := s1.toks) hk
    refine ⟨s1.heap.objs.size + 1, [s1.heap.objs.size + 1, s1.heap.objs.size], _, _, H1, rfl, I2, turn_enumT a (s1.heap.objs.size + 1) s1.heap.objs.size, ⟨⟨.none, he⟩, ⟨_, hit, rfl, rfl⟩, Nat.succ_ne_self _, Nat.ne_of_lt hal, fun z => by rw [← z] at hal; exact absurd (Nat.lt_of_succ_lt hal) (Nat.lt_irrefl _)⟩, fun b hb => ?_, q⟩
    have e' : b = s1.heap.objs.size + 1 ∨ b = s1.heap.objs.size := by simpa using hb
    have hle : s1.heap.objs.size ≤ b := by
      rcases e' with z | z
      · rw [z]; exact Nat.le_add_right _ _
      · rw [z]; exact Nat.le_refl _
    exact I1.fpOk hle (I1.hok.fresh hle)
def enumD (ds : List D) : List D := ds.mapIdx fun i d => .tup [.int (i : Nat), d]
def zipD (xs ys : List D) : List D := List.zipWith (fun x y => .tup [x, y]) xs ys
section
variable {M : Mach} {X : Cx} {N : List Str} {sc : Scope} {vb lb gb : Str → Bool} {B : Bs} {G : Sl} {O : Own} {e a b : Expr} {es : List Expr} {pos p : Pos} {d d1 d2 : D} {ds : List D} {E : EndsD}
theorem pair_rep {K : PySem.W.Frag} {F : Hp} {T : Addr} {x y : V} {dx dy : D} (hT : F T = none) (rx : Rep K F x dx) (ry : Rep K F y dy) : Rep K (upd F T (.tup [x, y])) (.ref T) (.tup [dx, dy]) :=
  .tup (SqT.of upd_same) (.cons (rx.mono (same_upd hT)) (.cons (ry.mono (same_upd hT)) .nil))
theorem enumD_get {i : Nat} (h : i < ds.length) : (enumD ds)[i]? = some (.tup [.int (i : Nat), ds[i]]) := by
  unfold enumD
  simp [h]
theorem enumD_length : (enumD ds).length = ds.length := by
  unfold enumD
  simp
theorem jok_enumT {K : PySem.W.Frag} {F : Hp} {a : Addr} {vs : List V} (hq : SqT K F a vs) (rs : Reps K F vs ds) : JOk K (IteT K a) F [] (enumD ds) where
  go := fun i F2 H2 e1 e2 _ hi => ⟨vs, vs[i]'(by rw [rs.length]; rw [enumD_length] at hi; exact hi), sqT_mono (e1.trans e2) hq, by simp⟩
  stop := fun F2 H2 e1 e2 _ => ⟨vs, sqT_mono (e1.trans e2) hq, by rw [rs.length, enumD_length]; exact Nat.le_refl _⟩
  yld := fun i F2 H2 x H3 e1 e2 _ hi y => by
    obtain ⟨T, z, rfl, hT, rfl, y⟩ := y
    rw [enumD_length] at hi
    obtain ⟨d, hd, r⟩ := rs.get' (y vs (sqT_mono (e1.trans e2) hq))
    have ed : ds[i] = d := by rw [List.getElem?_eq_getElem hi] at hd; exact Option.some.inj hd
    refine ⟨_, enumD_get hi, .inr ⟨T, _, hT, rfl, ?_⟩⟩
    rw [ed]
    exact pair_rep (e2.free hT) (.int _) (r.mono e1)
theorem wi_enumT {elts : List Expr} {kk : Nat} {tpos : Pos} {Φ : List D → Own → Own → Prop} (C : Cxt M X N sc vb lb gb) (hm : M.mg "enumerate" = none) (hg : gb "enumerate" = true) (h : WE X B G O a fun d O1 => ∃ ds, d = .tup ds ∧ Φ (enumD ds) [] O1) (sa : Plain1 a := by exact fun _ _ => star_cons rfl) :
    WI X B G O (.Tuple elts kk tpos) (.Call (.Name "enumerate" p) [a] [] pos) Φ := fun F σ H S R k =>
  semI (pi_enumT (C.gl _ hg).1 (by rw [C.mg]; exact hm) pa_sem (sa _ _)) ((wa_cons (h.mono fun d O1 z => wa_nil (Φ := fun xs O' => ∃ ds, (d :: xs) = [.tup ds] ∧ Φ (enumD ds) [] O') (by
    obtain ⟨ds, rfl, z⟩ := z
    exact ⟨ds, rfl, z⟩)) (sa _ _) : WA X B G O [a] fun xs O' => ∃ ds, xs = [.tup ds] ∧ Φ (enumD ds) [] O') F σ H S _ fun vs F1 H1 xs O1 S1 e1 r1 p1 => by
    obtain ⟨ds, rfl, p1⟩ := p1
    obtain ⟨v, rfl, rv⟩ := reps1 r1
    cases rv with
    | tup hq rs => exact ⟨_, _, rfl, sqT_mono S1.ex hq, k _ F1 H1 _ [] O1 S1 e1 (jok_enumT hq rs) p1⟩)
theorem wiv_enumT {elts : List Expr} {kk : Nat} {tpos : Pos} (C : Cxt M X N sc vb lb gb) (hm : M.mg "enumerate" = none) (hg : gb "enumerate" = true) (h : PEv X B G O a (.tup ds)) (sa : Plain1 a := by exact fun _ _ => star_cons rfl) : WIv X B G O (.Tuple elts kk tpos) (.Call (.Name "enumerate" p) [a] [] pos) (enumD ds) [] := wi_enumT C hm hg (we_pv h ⟨ds, rfl, rfl, rfl, rfl⟩) sa
theorem zipD_get {xs ys : List D} {i : Nat} {x y : D} (h1 : xs[i]? = some x) (h2 : ys[i]? = some y) : (zipD xs ys)[i]? = some (.tup [x, y]) := by
  unfold zipD
  rw [List.getElem?_zipWith, h1, h2]
theorem zipD_length {xs ys : List D} : (zipD xs ys).length = min xs.length ys.length := by
  unfold zipD
  simp
theorem jok_zipT {K : PySem.W.Frag} {F : Hp} {a b : Addr} {vs ws : List V} {xs ys : List D} (hq : SqT K F a vs) (rs : Reps K F vs xs) (hq2 : SqT K F b ws) (rs2 : Reps K F ws ys) : JOk K (RZ.ItzT K a b) F [] (zipD xs ys) where
  go := fun i F2 H2 e1 e2 _ hi => by
    rw [zipD_length] at hi
    exact ⟨vs, ws, vs[i]'(by rw [rs.length]; omega), ws[i]'(by rw [rs2.length]; omega), sqT_mono (e1.trans e2) hq, sqT_mono (e1.trans e2) hq2, by simp, by simp⟩
  stop := fun F2 H2 e1 e2 _ => ⟨vs, ws, sqT_mono (e1.trans e2) hq, sqT_mono (e1.trans e2) hq2, by rw [rs.length, rs2.length, zipD_length]; omega⟩
  yld := fun i F2 H2 x H3 e1 e2 _ hi y => by
    obtain ⟨T, z, z2, rfl, hT, rfl, y, y2⟩ := y
    obtain ⟨d, hd, r⟩ := rs.get' (y vs (sqT_mono (e1.trans e2) hq))
    obtain ⟨d2, hd2, r2⟩ := rs2.get' (y2 ws (sqT_mono (e1.trans e2) hq2))
    exact ⟨_, zipD_get hd hd2, .inr ⟨T, _, hT, rfl, pair_rep (e2.free hT) (r.mono e1) (r2.mono e1)⟩⟩
theorem jok_zipL {K : PySem.W.Frag} {F : Hp} {a b : Addr} {vs ws : List V} {xs ys : List D} (hq : SqL K F a vs) (rs : Reps K F vs xs) (hq2 : SqL K F b ws) (rs2 : Reps K F ws ys) : JOk K (Itz K a b) F [] (zipD xs ys) where
  go := fun i F2 H2 e1 e2 _ hi => by
    rw [zipD_length] at hi
    exact ⟨vs, ws, vs[i]'(by rw [rs.length]; omega), ws[i]'(by rw [rs2.length]; omega), (e1.trans e2).seq hq, (e1.trans e2).seq hq2, by simp, by simp⟩
  stop := fun F2 H2 e1 e2 _ => ⟨vs, ws, (e1.trans e2).seq hq, (e1.trans e2).seq hq2, by rw [rs.length, rs2.length, zipD_length]; omega⟩
  yld := fun i F2 H2 x H3 e1 e2 _ hi y => by
    obtain ⟨T, z, z2, rfl, hT, rfl, y, y2⟩ := y
    obtain ⟨d, hd, r⟩ := rs.get' (y vs ((e1.trans e2).seq hq))
    obtain ⟨d2, hd2, r2⟩ := rs2.get' (y2 ws ((e1.trans e2).seq hq2))
    exact ⟨_, zipD_get hd hd2, .inr ⟨T, _, hT, rfl, pair_rep (e2.free hT) (r.mono e1) (r2.mono e1)⟩⟩
/-- zip of two tuples, of two lists -/
theorem wiv_zip {xs ys : List D} {elts : List Expr} {kk : Nat} {tpos : Pos} (C : Cxt M X N sc vb lb gb) (hm : M.mg "zip" = none) (hg : gb "zip" = true) (ha : PEv X B G O a d1) (hb : PEv X B G O b d2) (h : (d1 = .tup xs ∧ d2 = .tup ys) ∨ (d1 = .lst xs ∧ d2 = .lst ys)) (sa : Plain1 a := by exact fun _ _ => star_cons rfl) (sb : Plain1 b := by exact fun _ _ => star_cons rfl) :
    WIv X B G O (.Tuple elts kk tpos) (.Call (.Name "zip" p) [a, b] [] pos) (zipD xs ys) [] := fun F σ H S R k =>
  semI (RZ.pi_zipA (C.gl _ hg).1 (by rw [C.mg]; exact hm) pa_sem (sa _ _) (plain_any sb)) ((pa_consv ha (pa_consv hb pa_nilv (sb _ _)) (sa _ _) : PAv X B G O [a, b] [d1, d2]) F σ H S _ fun vs F1 H1 zs O1 S1 e1 r1 p1 => by
    obtain ⟨rfl, rfl⟩ := p1
    obtain ⟨v, w, rfl, rv, rw'⟩ := reps2 r1
    rcases h with ⟨rfl, rfl⟩ | ⟨rfl, rfl⟩
    · cases rv with
      | tup hq rs =>
        cases rw' with
        | tup hq2 rs2 => exact ⟨_, _, _, _, rfl, .inr ⟨sqT_mono S1.ex hq, sqT_mono S1.ex hq2, k _ F1 H1 _ [] _ S1 e1 (jok_zipT hq rs hq2 rs2) ⟨rfl, rfl, rfl⟩⟩⟩
    · cases rv with
      | lst hq rs =>
        cases rw' with
        | lst hq2 rs2 => exact ⟨_, _, _, _, rfl, .inl ⟨S1.ex.seq hq, S1.ex.seq hq2, k _ F1 H1 _ [] _ S1 e1 (jok_zipL hq rs hq2 rs2) ⟨rfl, rfl, rfl⟩⟩⟩)
theorem own_ty {K : PySem.W.Frag} {F H : Hp} {σ : L2.St} {q : Addr} {xs : List D} (S : Sat K B G O F σ H) (hm : (q, OV.lst xs) ∈ O) : tyV K "list" (.ref q) H := by
  obtain ⟨_, vs, hv, _⟩ := S.own _ hm
  exact .inl ⟨rfl, _, SqL.of hv⟩
theorem own_get {K : PySem.W.Frag} {F H : Hp} {σ : L2.St} {q : Addr} {xs : List D} (S : Sat K B G O F σ H) (hm : (q, OV.lst xs) ∈ O) : ∃ vs, H q = some (.lst vs) ∧ Reps K F vs xs := by
  obtain ⟨_, vs, hv, rs⟩ := S.own _ hm
  exact ⟨vs, hv, rs⟩
/-- xs.append(e) -/
theorem we_append {apos : Pos} {q : Addr} {ys : List D} {Φ : D → Own → Prop} (ha : PEv X B G O a (.obj q)) (h0 : (q, OV.lst ys) ∈ O) (h : WE X B G O e fun d O1 => ∃ xs O2, (q, OV.lst xs) ∈ O1 ∧ xs.length < 1000000 ∧ OSet O1 q (.lst (xs ++ [d])) O2 ∧ Φ .non O2)
    (hbase : attributeBase a "append" X.env (eval a X.env) = eval a X.env := by rfl)
    (hfew : ((backTo pos (starEach [e] X.env)).all (fun x => !x.1) && (backToKw pos (keywordEach [] X.env)).all (fun x => x.1.isSome) && decide ([e].length + ([] : List Keyword).length + (if ([] : List Keyword).isEmpty then 0 else 1) < 30)) = true := by rfl)
    (hline : (apos.endLine == pos.line) = true := by rfl) (hs : starEach [e] X.env = (false, eval e X.env) :: starEach [] X.env := by rfl) : WE X B G O (.Call (.Attribute a "append" apos) [e] [] pos) Φ := fun F σ H S Q k => by
  refine sem (pe_bm PySem.F.plainAttrs_list PySem.F.slot_list_append PySem.F.type_list_append mt_append pe_sem (pa_cons pe_sem pa_nil hs) hbase hfew hline hs rfl) ?_
  refine ha F σ H S _ fun v F1 H1 d1 O1 S1 e1 r1 p1 => ?_
  obtain ⟨rfl, rfl⟩ := p1
  cases r1
  refine ⟨own_ty S1 h0, ?_⟩
  refine h F1 σ H1 S1 _ fun u F2 H2 d2 O2 S2 e2 r2 p2 => ?_
  obtain ⟨xs, O3, hm, hl, hs, p2⟩ := p2
  obtain ⟨vs, hv, rs⟩ := own_get S2 hm
  refine ⟨q, vs, u, rfl, rfl, hv, by rw [rs.length]; exact Nat.lt_of_lt_of_le hl (len_line (Nat.le_refl _)), ?_⟩
  exact k _ F2 _ _ O3 (S2.mut hs (ov := .lst (xs ++ [d2])) ⟨_, upd_same, rs.append (.cons r2 .nil)⟩) (e1.trans e2) .non p2
/-- xs.pop() -/
theorem we_pop {apos : Pos} {q : Addr} {ys : List D} {y : D} {O2 : Own} {Φ : D → Own → Prop} (ha : PEv X B G O a (.obj q)) (h0 : (q, OV.lst ys) ∈ O) (hy : ys.getLast? = some y) (hs : OSet O q (.lst ys.dropLast) O2) (h : Φ y O2)
    (hbase : attributeBase a "pop" X.env (eval a X.env) = eval a X.env := by rfl) (hline : (apos.endLine == pos.line) = true := by rfl) : WE X B G O (.Call (.Attribute a "pop" apos) [] [] pos) Φ := fun F σ H S Q k => by
  refine sem (pe_bm0 PySem.F.plainAttrs_list PySem.F.slot_list_pop PySem.F.type_list_pop mt_pop pe_sem hbase hline) ?_
  refine ha F σ H S _ fun v F1 H1 d1 O1 S1 e1 r1 p1 => ?_
  obtain ⟨rfl, rfl⟩ := p1
  cases r1
  obtain ⟨vs, hv, rs⟩ := own_get S1 h0
  rw [List.getLast?_eq_getElem?] at hy
  obtain ⟨u, hu, ru⟩ := rs.get hy
  refine ⟨own_ty S1 h0, q, vs, u, rfl, rfl, hv, by rw [rs.length]; exact hu, ?_⟩
  exact k _ F1 _ _ O2 (S1.mut hs (ov := .lst ys.dropLast) ⟨_, upd_same, rs.dropLast⟩) e1 ru h
/-- xs.pop(i) -/
theorem we_popAt {apos : Pos} {q : Addr} {Φ : D → Own → Prop} (ha : PEv X B G O a (.obj q)) {ys : List D} (h0 : (q, OV.lst ys) ∈ O) (h : WE X B G O e fun d O1 => ∃ (i : Nat) (xs : List D) (y : D) (O2 : Own), d = .int i ∧ (q, OV.lst xs) ∈ O1 ∧ xs[i]? = some y ∧ i < 1000000 ∧ OSet O1 q (.lst (xs.eraseIdx i)) O2 ∧ Φ y O2)
    (hbase : attributeBase a "pop" X.env (eval a X.env) = eval a X.env := by rfl)
    (hfew : ((backTo pos (starEach [e] X.env)).all (fun x => !x.1) && (backToKw pos (keywordEach [] X.env)).all (fun x => x.1.isSome) && decide ([e].length + ([] : List Keyword).length + (if ([] : List Keyword).isEmpty then 0 else 1) < 30)) = true := by rfl)
    (hline : (apos.endLine == pos.line) = true := by rfl) (hs : starEach [e] X.env = (false, eval e X.env) :: starEach [] X.env := by rfl) : WE X B G O (.Call (.Attribute a "pop" apos) [e] [] pos) Φ := fun F σ H S Q k => by
  refine sem (pe_bm PySem.F.plainAttrs_list PySem.F.slot_list_pop PySem.F.type_list_pop mt_popAt pe_sem (pa_cons pe_sem pa_nil hs) hbase hfew hline hs rfl) ?_
  refine ha F σ H S _ fun v F1 H1 d1 O1 S1 e1 r1 p1 => ?_
  obtain ⟨rfl, rfl⟩ := p1
  cases r1
  refine ⟨own_ty S1 h0, ?_⟩
  refine h F1 σ H1 S1 _ fun u F2 H2 d2 O2 S2 e2 r2 p2 => ?_
  obtain ⟨i, xs, y, O3, rfl, hm, hy, hi, hs, p2⟩ := p2
  cases r2
  obtain ⟨vs, hv, rs⟩ := own_get S2 hm
  obtain ⟨u, hu, ru⟩ := rs.get hy
  have hlt := (List.getElem?_eq_some_iff.mp hu).1
  refine ⟨q, vs, i, i, u, rfl, rfl, hv, by omega, by omega, ?_, hu, ?_⟩
  · have z : ixN vs.length (i : Int) = some i := by
      unfold ixN
      rw [if_pos (by omega), if_pos (by omega)]
      simp
    exact (ixN_seq z).1
  · exact k _ F2 _ _ O3 (S2.mut hs (ov := .lst (xs.eraseIdx i)) ⟨_, upd_same, rs.eraseIdx i⟩) (e1.trans e2) ru p2
/-- o[i] = .. -/
theorem wg_sub {vs : Nat → Prop} {Φ : Sl → Own → Prop} (h : WE X B G O a fun d1 O1 => ∃ q, d1 = .obj q ∧ WE X B G O1 b fun d2 O2 => ∃ (i : Int) (j : Nat) (xs : List D) (O3 : Own), d2 = .int i ∧ (q, OV.lst xs) ∈ O2 ∧ ixN xs.length i = some j ∧ OSet O2 q (.lst (xs.set j d)) O3 ∧ Φ G O3)
    (hsb : ∀ v, assign (.Subscript a b pos) X.env v = (do
      let ov ← holding [v] (eval a X.env)
      let iv ← holding [v, ov] (eval b X.env)
      standAt pos
      holding [v, ov, iv] (setItem ov iv v)
      release [v, ov, iv] []) := by intro _; rfl) : WG X B G O (.Subscript a b pos) vs d Φ := fun F σ H v S r Q k => by
  refine semG (pg_sub pe_sem pe_sem set_list hsb) ?_
  refine h F σ H S _ fun u F1 H1 d1 O1 S1 e1 r1 p1 => ?_
  obtain ⟨q, rfl, p1⟩ := p1
  cases r1
  refine p1 F1 σ H1 S1 _ fun w F2 H2 d2 O2 S2 e2 r2 p2 => ?_
  obtain ⟨i, j, xs, O3, rfl, hm, hi, hs, p2⟩ := p2
  cases r2
  obtain ⟨vs, hv, rs⟩ := own_get S2 hm
  refine ⟨q, vs, i, j, rfl, rfl, hv, by rw [rs.length]; exact hi, ?_⟩
  exact k G O3 F2 _ _ (S2.mut hs (ov := .lst (xs.set j d)) ⟨_, upd_same, rs.set ((r.mono e1).mono e2) j⟩) (e1.trans e2) Touch.refl p2
mutual
def toPy : D → PyData
  | .non => .none
  | .bl b => .bool b
  | .int i => .int i
  | .str x => .str x
  | .ty _ => .dict []
  | .obj _ => .dict []
  | .tup xs => .tuple (toPyL xs)
  | .lst xs => .list (toPyL xs)
def toPyL : List D → List PyData
  | [] => []
  | d :: ds => toPy d :: toPyL ds
end
mutual
theorem dp_of {K : PySem.W.Frag} {F H : Hp} (e : Same F H) : ∀ {v : V} {d : D}, Rep K F v d → (toPy d).canLay0 = true → Dp K H v (toPy d)
  | _, _, .non, _ => .non
  | _, _, .bl b, _ => .bl b
  | _, _, .int i, _ => .int i
  | _, _, .str x, _ => .str x
  | _, _, .ty n, h => by simp [toPy, PyData.canLay0] at h
  | _, _, .obj a, h => by simp [toPy, PyData.canLay0] at h
  | _, _, .tup hq rs, h => .tup (sqT_mono e hq) (dps_of e rs (by simpa [toPy, PyData.canLay0] using h))
  | _, _, .lst hq rs, h => .lst (sqL_mono e hq) (dps_of e rs (by simpa [toPy, PyData.canLay0] using h))
theorem dps_of {K : PySem.W.Frag} {F H : Hp} (e : Same F H) : ∀ {vs : List V} {ds : List D}, Reps K F vs ds → PyData.canLayAll0 (toPyL ds) = true → DpAll K H vs (toPyL ds)
  | _, _, .nil, _ => .nil
  | _, _, .cons (d := d) (ds := ds) r rs, h => by
    have h' : (toPy d).canLay0 = true ∧ PyData.canLayAll0 (toPyL ds) = true := by simpa [toPyL, PyData.canLayAll0] using h
    exact .cons (dp_of e r h'.1) (dps_of e rs h'.2)
end
/-- the datum as == sees it -/
inductive PyOf (O : Own) : D → PyData → Prop
  | val {d : D} : PyOf O d (toPy d)
  | own {q : Addr} {ds : List D} : (q, OV.lst ds) ∈ O → PyOf O (.obj q) (.list (toPyL ds))
def dEqD (f : Bool → Bool) : DR2 := fun x y O Φ => ∃ p q, PyOf O x p ∧ PyOf O y q ∧ SeqAt.shaped p = true ∧ SeqAt.shaped q = true ∧ Φ (.bl (f (PyData.eqv p q))) O
theorem pyOf_dp {K : PySem.W.Frag} {F H : Hp} {σ : L2.St} (S : Sat K B G O F σ H) {v : V} {x : D} {p : PyData} (r : Rep K F v x) (h : PyOf O x p) (hs : SeqAt.shaped p = true) : Dp K H v p := by
  have hc := SeqAt.canLay_of_shaped hs
  cases h with
  | val => exact dp_of S.ex r hc
  | own hm =>
    obtain ⟨vs, hv, rs⟩ := own_get S hm
    cases r
    exact .lst (SqL.of hv) (dps_of S.ex rs (by simpa [PyData.canLay0] using hc))
theorem dop_eqD : DOp X (rEqD X.K) (dEqD id) := fun B G O F σ H x y dx dy Φ S rx ry h Q k => by
  obtain ⟨p, q, h1, h2, s1, s2, z⟩ := h
  exact ⟨p, q, pyOf_dp S rx h1 s1, pyOf_dp S ry h2 s2, s1, s2, k _ F H _ O S (Same.refl _) (.bl _) z⟩
theorem dop_neD : DOp X (rNeD X.K) (dEqD not) := fun B G O F σ H x y dx dy Φ S rx ry h Q k => by
  obtain ⟨p, q, h1, h2, s1, s2, z⟩ := h
  exact ⟨p, q, pyOf_dp S rx h1 s1, pyOf_dp S ry h2 s2, s1, s2, k _ F H _ O S (Same.refl _) (.bl _) z⟩
theorem dEqD_mono {f : Bool → Bool} {x y : D} (O : Own) (Φ Ψ : D → Own → Prop) (k : ∀ d O, Φ d O → Ψ d O) : dEqD f x y O Φ → dEqD f x y O Ψ := fun ⟨p, q, a, b, c, d, z⟩ => ⟨p, q, a, b, c, d, k _ _ z⟩
variable {p1 p2 : PyData}
theorem pt_neD (C : Cxt M X N sc vb lb gb) (ha : PEv X B G O a d1) (hb : PEv X B G O b d2) (h1 : PyOf O d1 p1) (h2 : PyOf O d2 p2) (s1 : SeqAt.shaped p1 = true) (s2 : SeqAt.shaped p2 = true) : PTv X B G O (.Compare a [.NotEq] [b] pos) (!PyData.eqv p1 p2) :=
  ptv_cmp (op_neD C.un) dop_neD (nomark _) ha hb ⟨_, _, h1, h2, s1, s2, rfl, rfl⟩ dEqD_mono
theorem pv_eqD (C : Cxt M X N sc vb lb gb) (ha : PEv X B G O a d1) (hb : PEv X B G O b d2) (h1 : PyOf O d1 p1) (h2 : PyOf O d2 p2) (s1 : SeqAt.shaped p1 = true) (s2 : SeqAt.shaped p2 = true) : PEv X B G O (.Compare a [.Eq] [b] pos) (.bl (PyData.eqv p1 p2)) :=
  pv_cmp (op_eqD C.un) dop_eqD (nomark _) ha hb ⟨_, _, h1, h2, s1, s2, rfl, rfl⟩
theorem toPyL_map {α : Type} (f : α → D) : ∀ xs : List α, toPyL (xs.map f) = xs.map fun x => toPy (f x)
  | [] => rfl
  | x :: xs => by
    show toPy (f x) :: toPyL (xs.map f) = _
    rw [toPyL_map f xs] <;> rfl
theorem shaped_list : ∀ (ds : List PyData), (∀ d ∈ ds, d.canLay0 = true ∧ d.depth ≤ 60) → PyData.canLayAll0 ds = true ∧ PyData.depthAll ds ≤ 60
  | [], _ => ⟨rfl, Nat.zero_le _⟩
  | d :: ds, h => by
    obtain ⟨h1, h2⟩ := shaped_list ds fun x hx => h x (List.mem_cons_of_mem _ hx)
    obtain ⟨h3, h4⟩ := h d List.mem_cons_self
    refine ⟨?_, ?_⟩
    · show (d.canLay0 && PyData.canLayAll0 ds) = true
      rw [h3, h1] <;> rfl
    · show max (PyData.depth d) (PyData.depthAll ds) ≤ 60
      omega
/-- a list of simple data -/
theorem shaped_map {α : Type} {f : α → D} {xs : List α} (h : ∀ x ∈ xs, (toPy (f x)).canLay0 = true ∧ (toPy (f x)).depth ≤ 60) : SeqAt.shaped (.list (toPyL (xs.map f))) = true := by
  rw [toPyL_map]
  obtain ⟨h1, h2⟩ := shaped_list (xs.map fun x => toPy (f x)) fun d hd => by
    obtain ⟨x, hx, rfl⟩ := List.mem_map.mp hd
    exact h x hx
  unfold SeqAt.shaped
  rw [Bool.and_eq_true]
  refine ⟨h1, decide_eq_true ?_⟩
  show PyData.depthAll _ + 1 ≤ 64
  omega
theorem eqv_nil (xs : List PyData) : PyData.eqv (.list xs) (.list []) = xs.isEmpty := by
  cases xs <;> rfl
end
end Dl
set_option Elab.async false
set_option linter.all false
set_option maxRecDepth 100000
set_option maxHeartbeats 2000000
namespace Dl
open PySem PySem.Spec PyProof.Rows L2
theorem at0 {x : D} {r : List D} : atI (x :: r) 0 = some x := by
  show ((if (0 : Int) ≤ 0 then (if (0 : Int) < ((r.length + 1 : Nat) : Int) then some (0 : Int).toNat else none) else _).bind fun j => (x :: r)[j]?) = some x
  rw [if_pos (by omega), if_pos (by omega)]
  rfl
theorem atN {ds : List D} {j : Nat} {x : D} (h : ds[j]? = some x) : atI ds (j : Int) = some x := atI_nat h
theorem at1 {x y : D} {r : List D} : atI (x :: y :: r) 1 = some y := atI_nat (j := 1) rfl
theorem at2 {x y z : D} {r : List D} : atI (x :: y :: z :: r) 2 = some z := atI_nat (j := 2) rfl
theorem at3 {x y z u : D} {r : List D} : atI (x :: y :: z :: u :: r) 3 = some u := atI_nat (j := 3) rfl
theorem at4 {x y z u v : D} {r : List D} : atI (x :: y :: z :: u :: v :: r) 4 = some v := atI_nat (j := 4) rfl
section
variable {M : Mach} {X : Cx} {N : List Str} {sc : Scope} {vb lb gb : Str → Bool} {B : Bs} {G : Sl} {O : Own} {e a b : Expr} {es : List Expr} {pos p : Pos} {d d1 d2 : D} {ds : List D}
theorem ItemsL.py {O : Own} {d : D} {ds : List D} (h : ItemsL O d ds) : PyOf O d (.list (toPyL ds)) := by
  cases h with
  | lst => exact .val
  | own hm => exact .own hm
/-- xs != [], xs == [] -/
theorem pt_neNil (C : Cxt M X N sc vb lb gb) (ha : PEv X B G O a d1) (it : ItemsL O d1 ds) (sh : SeqAt.shaped (.list (toPyL ds)) = true) : PTv X B G O (.Compare a [.NotEq] [.List [] p] pos) (!ds.isEmpty) :=
  (pt_neD C ha (pv_frz (pn_lst pa_nilv)) it.py (.val (d := .lst [])) sh rfl).to (by
    show (!PyData.eqv (.list (toPyL ds)) (.list [])) = _
    rw [eqv_nil]
    cases ds <;> rfl)
end
theorem ix0 {x : D} {r : List D} : ixN (x :: r).length 0 = some 0 := by
  unfold ixN
  rw [if_pos (by omega), if_pos (by rw [List.length_cons]; omega)]
  rfl
/-- a test that is told -/
theorem if_t {c : Bool} {A B : Prop} (hc : c = true) (h : A) : if c = true then A else B := by rw [if_pos hc]; exact h
theorem if_f {c : Bool} {A B : Prop} (hc : c = false) (h : B) : if c = true then A else B := by rw [hc]; exact h
theorem if_2 {c : Bool} {A B : Prop} (h1 : c = true → A) (h2 : c = false → B) : if c = true then A else B := by
  cases c with
  | true => exact h1 rfl
  | false => exact h2 rfl
theorem if_d {q : Prop} [Decidable q] {A B : Prop} (h1 : q → A) (h2 : ¬ q → B) : if decide q = true then A else B := by
  by_cases h : q
  · rw [if_pos (decide_eq_true h)]; exact h1 h
  · rw [if_neg (by rw [decide_eq_false h]; decide)]; exact h2 h
end Dl
set_option Elab.async false
set_option linter.all false
set_option maxRecDepth 100000
set_option maxHeartbeats 2000000
namespace Dl
open PySem PySem.Spec PyProof.Rows L2
theorem enum_at {α : Type} {xs : List α} {f : α → D} {i : Nat} {d : D} (h : (enumD (xs.map f))[i]? = some d) : ∃ x, xs[i]? = some x ∧ d = .tup [.int (i : Nat), f x] ∧ xs.drop i = x :: xs.drop (i + 1) := by
  unfold enumD at h
  rw [List.getElem?_mapIdx, List.getElem?_map] at h
  cases e : xs[i]? with
  | none => rw [e] at h; cases h
  | some x =>
    rw [e] at h
    obtain ⟨hi, ex⟩ := List.getElem?_eq_some_iff.mp e
    exact ⟨x, rfl, (Option.some.inj h).symm, by rw [← ex]; exact List.drop_eq_getElem_cons hi⟩
theorem map_at {α : Type} {xs : List α} {f : α → D} {i : Nat} {d : D} (h : (xs.map f)[i]? = some d) : ∃ x, xs[i]? = some x ∧ d = f x ∧ xs.drop i = x :: xs.drop (i + 1) := by
  rw [List.getElem?_map] at h
  cases e : xs[i]? with
  | none => rw [e] at h; cases h
  | some x =>
    rw [e] at h
    obtain ⟨hi, ex⟩ := List.getElem?_eq_some_iff.mp e
    exact ⟨x, rfl, (Option.some.inj h).symm, by rw [← ex]; exact List.drop_eq_getElem_cons hi⟩
section
variable {M : Mach} {X : Cx} {N : List Str} {sc : Scope} {vb lb gb : Str → Bool} {B : Bs} {G : Sl} {O : Own} {e a b elt : Expr} {es : List Expr} {pos p : Pos} {d d1 d2 : D} {ds : List D} {E : EndsD}
theorem wss_perm {O' : Own} {sts : List Stmt} (hp : O.Perm O') (h : WSs X B G O' sts E) : WSs X B G O sts E := fun F σ H S D' k => h F σ H (S.perm hp) D' k
/-- less is said behind a value -/
theorem we_less {Φ : D → Own → Prop} (h : WE X B G O e fun d O' => ∃ O'', O''.Sublist O' ∧ Φ d O'') : WE X B G O e Φ := fun F σ H S Q k => h F σ H S Q fun v F' H' d O' S' e' r p => by
  obtain ⟨O'', hs, p⟩ := p
  exact k v F' H' d O'' (S'.sub (fun p hp => hs.subset hp) ((hs.map _).nodup S'.nd)) e' r p
theorem ws_less {st : Stmt} (h : WS X B G O st (E.to fun G' O' => ∃ O'', O''.Sublist O' ∧ E.nx G' O'')) : WS X B G O st E := fun F σ H S D' k =>
  h F σ H S D' ⟨fun G' O' F' σ' H' S' e' p => by
    obtain ⟨O'', hs, p⟩ := p
    exact k.nx G' O'' F' σ' H' (S'.sub (fun p hp => hs.subset hp) ((hs.map _).nodup S'.nd)) e' p, k.rt, k.bk, k.ct⟩
theorem pn_lcA {α : Type} {xs : List α} {enc : α → D} {f : α → D} {lk : Own} {scope : Scope} {own : List (Str × Nat)} {tg iter : Expr} {ifs : List Expr} (C : Cxt M X N sc vb lb gb) (hb : blkC N sc scope own = true)
    (hi : WIv X B G O tg iter (xs.map enc) lk) (hk : ∀ p ∈ lk, p ∈ O) (hl : xs.length ≤ 1000000) (ht : ∀ x ∈ xs, LcPure M X N sc scope G (own.map (·.2)) O tg ifs elt (enc x) true (f x)) (hs : ∀ x, foldedSetIterable iter X.env x = pure x := by intro _; rfl) :
    PNv X B G O (.ListComp elt [⟨tg, iter, ifs, 0⟩] scope pos) (xs.map f) := by
  have z := pn_lc (elt := elt) (pos := pos) (c := fun _ => true) C hb hi hk hl ht hs
  rw [List.filter_eq_self.mpr (fun _ _ => rfl)] at z
  exact z
theorem pv_sumLc {α : Type} {xs : List α} {enc : α → D} {c : α → Bool} {f : α → Int} {lk : Own} {scope : Scope} {own : List (Str × Nat)} {tg iter : Expr} {ifs : List Expr} {lpos : Pos} (C : Cxt M X N sc vb lb gb) (hm : M.mg "sum" = none) (hg : gb "sum" = true) (hb : blkC N sc scope own = true)
    (hi : WIv X B G O tg iter (xs.map enc) lk) (hk : ∀ p ∈ lk, p ∈ O) (hl : xs.length ≤ 1000000) (ht : ∀ x ∈ xs, LcPure M X N sc scope G (own.map (·.2)) O tg ifs elt (enc x) (c x) (.int (f x))) (hs : ∀ x, foldedSetIterable iter X.env x = pure x := by intro _; rfl) :
    PEv X B G O (.Call (.Name "sum" p) [.ListComp elt [⟨tg, iter, ifs, 0⟩] scope lpos] [] pos) (.int ((xs.filter c).map f).sum) :=
  pv_sum C (pv_frz (pn_lc (f := fun x => .int (f x)) C hb hi hk hl ht hs)) (by
    have : (xs.filter c).map (fun x => D.int (f x)) = ((xs.filter c).map f).map D.int := by rw [List.map_map]; rfl
    rw [this]
    exact .lst) hm hg
theorem pv_sumLcA {α : Type} {xs : List α} {enc : α → D} {f : α → Int} {lk : Own} {scope : Scope} {own : List (Str × Nat)} {tg iter : Expr} {ifs : List Expr} {lpos : Pos} (C : Cxt M X N sc vb lb gb) (hm : M.mg "sum" = none) (hg : gb "sum" = true) (hb : blkC N sc scope own = true)
    (hi : WIv X B G O tg iter (xs.map enc) lk) (hk : ∀ p ∈ lk, p ∈ O) (hl : xs.length ≤ 1000000) (ht : ∀ x ∈ xs, LcPure M X N sc scope G (own.map (·.2)) O tg ifs elt (enc x) true (.int (f x))) (hs : ∀ x, foldedSetIterable iter X.env x = pure x := by intro _; rfl) :
    PEv X B G O (.Call (.Name "sum" p) [.ListComp elt [⟨tg, iter, ifs, 0⟩] scope lpos] [] pos) (.int (xs.map f).sum) := by
  have z := pv_sumLc (elt := elt) (pos := pos) (p := p) (lpos := lpos) (c := fun _ => true) C hm hg hb hi hk hl ht hs
  rw [List.filter_eq_self.mpr (fun _ _ => rfl)] at z
  exact z
/-- tuple(what a call gives) -/
theorem we_tuple {Φ : D → Own → Prop} (C : Cxt M X N sc vb lb gb) (hm : M.mg "tuple" = none) (hg : gb "tuple" = true) (h : WE X B G O a fun d O1 => ∃ ds, Items O1 d ds ∧ Φ (.tup ds) O1) (sa : Plain1 a := by exact fun _ _ => star_cons rfl) : WE X B G O (.Call (.Name "tuple" p) [a] [] pos) Φ :=
  we_callTy (R := fun xs O Φ => ∃ d ds, xs = [d] ∧ Items O d ds ∧ Φ (.tup ds) O) C call_tuple_of (fun B G O F σ H xs ds Φ S r h Q k => by
    obtain ⟨d, ds, rfl, it, q⟩ := h
    obtain ⟨v, rfl, rv⟩ := reps1 r
    have lst : ∀ {d : D} {ds : List D}, Rep X.K F v d → ItemsL O d ds → Φ (.tup ds) O → (fun xs H Q => ∃ p ys, xs = [V.ref p] ∧ ((SqL X.K H p ys ∧ ∀ l, H l = none → Q (.ref l) (upd H l (.tup ys))) ∨ (SqT X.K H p ys ∧ Q (.ref p) H))) [v] H Q := fun {d ds} rv it q => by
      obtain ⟨a, vs, rfl, rs, hq⟩ := itemsL_ok S rv it
      exact ⟨a, vs, rfl, .inl ⟨hq, fun l hl => by
        have S2 := S.alloc hl (.tup vs)
        have e2 : Same F (upd F l (.tup vs)) := same_upd (S.fresh hl).1
        exact k _ _ _ _ O S2 e2 (.tup (SqT.of upd_same) (rs.mono e2)) q⟩⟩
    cases it with
    | tup =>
      cases rv with
      | tup hq rs => exact ⟨_, _, rfl, .inr ⟨sqT_mono S.ex hq, k _ F H _ O S (Same.refl _) (.tup hq rs) q⟩⟩
    | lst => exact lst rv .lst q
    | own hm => exact lst rv (.own hm) q) hm hg (by decide +kernel) (wa_cons (h.mono fun d O1 z => wa_nil (by
      obtain ⟨ds, it, q⟩ := z
      exact ⟨d, ds, rfl, it, q⟩)) (sa _ _)) (he := sa _ _)
end
end Dl
set_option Elab.async false
set_option linter.all false
set_option maxRecDepth 100000
set_option maxHeartbeats 2000000
namespace Dl
open PySem PySem.Spec PyProof.Rows L2
theorem swap2 {env : Env} {x y : Str} {a b : Expr} {px py pt pt2 : Pos} {kt k2} (hk : env.blockKind = .function) (hx : env.kindOf x = some .local) (hy : env.kindOf y = some .local) (hl : (py.line == px.line) = true) (hxy : ([x, y].eraseDups.length != 2) = false)
    (hst : ([a, b].any fun | .Starred .. => true | _ => false) = false) (hf : [a, b].all (foldedForSure 8) = false) (hc : [a, b].all (constantsAlone 8) = false) :
    swappedStores [.Tuple [.Name x px, .Name y py] kt pt] (.Tuple [a, b] k2 pt2) env = pure (some [x, y]) := by
  unfold swappedStores
  have hx1 : (env.kindOf x == some NameKind.local) = true := by rw [hx]; rfl
  have hy1 : (env.kindOf y == some NameKind.local) = true := by rw [hy]; rfl
  have hb : (env.blockKind != ScopeKind.function) = false := by rw [hk]; rfl
  simp only [List.filterMap_cons, List.filterMap_nil, List.head?_cons, Option.map_some, Option.getD_some, Expr.pos, hx1, hy1, hl, hb, Bool.and_self, beq_self_eq_true, if_true, hxy, hf, hc, List.length_cons, List.length_nil, Bool.or_false]
  refine Eq.trans (if_neg ?_) ?_
  · decide
  refine Eq.trans (if_neg ?_) ?_
  · exact fun h => Bool.false_ne_true (hst.symm.trans h)
  rfl
theorem swap3 {env : Env} {x y z : Str} {a b c : Expr} {px py pz pt pt2 : Pos} {kt k2} (hk : env.blockKind = .function) (hx : env.kindOf x = some .local) (hy : env.kindOf y = some .local) (hz : env.kindOf z = some .local) (hl : (py.line == px.line) = true) (hl2 : (pz.line == px.line) = true) (hxy : ([x, y, z].eraseDups.length != 3) = false)
    (hst : ([a, b, c].any fun | .Starred .. => true | _ => false) = false) (hf : [a, b, c].all (foldedForSure 8) = false) (hc : [a, b, c].all (constantsAlone 8) = false) :
    swappedStores [.Tuple [.Name x px, .Name y py, .Name z pz] kt pt] (.Tuple [a, b, c] k2 pt2) env = pure (some [x, y, z]) := by
  unfold swappedStores
  have hx1 : (env.kindOf x == some NameKind.local) = true := by rw [hx]; rfl
  have hy1 : (env.kindOf y == some NameKind.local) = true := by rw [hy]; rfl
  have hz1 : (env.kindOf z == some NameKind.local) = true := by rw [hz]; rfl
  have hb : (env.blockKind != ScopeKind.function) = false := by rw [hk]; rfl
  simp only [List.filterMap_cons, List.filterMap_nil, List.head?_cons, Option.map_some, Option.getD_some, Expr.pos, hx1, hy1, hz1, hl, hl2, hb, Bool.and_self, beq_self_eq_true, if_true, hxy, hf, hc, List.length_cons, List.length_nil, Bool.or_false]
  refine Eq.trans (if_neg ?_) ?_
  · decide
  refine Eq.trans (if_neg ?_) ?_
  · exact fun h => Bool.false_ne_true (hst.symm.trans h)
  rfl
theorem line_fn {env : Env} (h : env.scope.kind = .function) : env.blockKind = .function := by
  unfold Env.blockKind
  rw [h]
  rfl
section
variable {M : Mach} {X : Cx} {N : List Str} {sc : Scope} {vb lb gb : Str → Bool} {B : Bs} {G : Sl} {O : Own} {a b c : Expr} {pos : Pos} {E : EndsD}
theorem ws_par {x y : Str} {i j : Nat} {f : D → Sl} {g2 : D → D → Sl} {px py pt pt2 : Pos} {kt k2} (C : Cxt M X N sc vb lb gb) (h1 : SetAt N G x i f) (h2 : ∀ d, SetAt N (f d) y j (g2 d)) (hl : (py.line == px.line) = true)
    (lx : sc.names.lookup x = some .local) (ly : sc.names.lookup y = some .local) (hxy : ([x, y].eraseDups.length != 2) = false) (hij : i ≠ j) (hf : [a, b].all (foldedForSure 8) = false) (hc : [a, b].all (constantsAlone 8) = false)
    (h : WA X B G O [a, b] fun ds O' => ∃ d e, ds = [d, e] ∧ E.nx (g2 d e) O') (hst : ([a, b].any fun | .Starred .. => true | _ => false) = false := by rfl) (hs : swapsWithSole [.Tuple [.Name x px, .Name y py] kt pt] (.Tuple [a, b] k2 pt2) pos.line X.env = pure false := by rfl) :
    WS X B G O (.Assign [.Tuple [.Name x px, .Name y py] kt pt] (.Tuple [a, b] k2 pt2) pos) E := fun F σ H S D' k => by
  obtain ⟨i1, i2⟩ := h1.ix
  have j1 := (h2 .non).ix.1
  have lx' : X.env.scope.names.lookup x = some .local := by rw [C.hsc]; exact lx
  have ly' : X.env.scope.names.lookup y = some .local := by rw [C.hsc]; exact ly
  refine semS (ps_par (i := i) (j := j) C.calm (by rw [C.hN]; exact C.nd) (by rw [C.hN]; exact i1) (by rw [C.hN]; exact j1) hij lx' ly' pa_sem (swap2 (line_fn C.kf) lx' ly' hl hxy hst hf hc) hs) ?_
  exact h F σ H S _ fun vs F' H' ds O' S' e' r p => by
    obtain ⟨d, e, rfl, p⟩ := p
    obtain ⟨v, w, rfl, rv, rw'⟩ := reps2 r
    refine ⟨v, w, rfl, ?_⟩
    have z := (h2 d).ix.2 
    rw [z, i2] at p
    exact k.nx _ O' F' _ H' ((S'.set rv).set rw') e' p
theorem ws_par3 {x y z : Str} {i j l : Nat} {f : D → Sl} {g2 : D → D → Sl} {g3 : D → D → D → Sl} {px py pz pt pt2 : Pos} {kt k2} (C : Cxt M X N sc vb lb gb) (h1 : SetAt N G x i f) (h2 : ∀ d, SetAt N (f d) y j (g2 d)) (h3 : ∀ d e, SetAt N (g2 d e) z l (g3 d e)) (hl : (py.line == px.line) = true) (hl2 : (pz.line == px.line) = true)
    (lx : sc.names.lookup x = some .local) (ly : sc.names.lookup y = some .local) (lz : sc.names.lookup z = some .local) (hxy : ([x, y, z].eraseDups.length != 3) = false) (hij : i ≠ j) (hil : i ≠ l) (hjl : j ≠ l) (hf : [a, b, c].all (foldedForSure 8) = false) (hc : [a, b, c].all (constantsAlone 8) = false)
    (h : WA X B G O [a, b, c] fun ds O' => ∃ d e q, ds = [d, e, q] ∧ E.nx (g3 d e q) O') (hst : ([a, b, c].any fun | .Starred .. => true | _ => false) = false := by rfl) (hs : swapsWithSole [.Tuple [.Name x px, .Name y py, .Name z pz] kt pt] (.Tuple [a, b, c] k2 pt2) pos.line X.env = pure false := by rfl) :
    WS X B G O (.Assign [.Tuple [.Name x px, .Name y py, .Name z pz] kt pt] (.Tuple [a, b, c] k2 pt2) pos) E := fun F σ H S D' k => by
  obtain ⟨i1, i2⟩ := h1.ix
  have j1 := (h2 .non).ix.1
  have l1 := (h3 .non .non).ix.1
  have lx' : X.env.scope.names.lookup x = some .local := by rw [C.hsc]; exact lx
  have ly' : X.env.scope.names.lookup y = some .local := by rw [C.hsc]; exact ly
  have lz' : X.env.scope.names.lookup z = some .local := by rw [C.hsc]; exact lz
  refine semS (L2.ps_par3 (i := i) (j := j) (l := l) C.calm (by rw [C.hN]; exact C.nd) (by rw [C.hN]; exact i1) (by rw [C.hN]; exact j1) (by rw [C.hN]; exact l1) hij hil hjl lx' ly' lz' pa_sem (swap3 (line_fn C.kf) lx' ly' lz' hl hl2 hxy hst hf hc) hs) ?_
  exact h F σ H S _ fun vs F' H' ds O' S' e' r p => by
    obtain ⟨d, e, q, rfl, p⟩ := p
    cases r with
    | cons r1 r =>
      obtain ⟨v, w, rfl, rv, rw'⟩ := reps2 r
      refine ⟨_, v, w, rfl, ?_⟩
      have y1 := (h3 d e).ix.2 
      have y2 := (h2 d).ix.2 
      rw [y1, y2, i2] at p
      exact k.nx _ O' F' _ H' (((S'.set r1).set rv).set rw') e' p
end
end Dl
set_option Elab.async false
set_option linter.all false
set_option maxRecDepth 100000
set_option maxHeartbeats 2000000
namespace Dl
open PySem PySem.Spec PyProof.Rows L2
/-- the type of a value -/
inductive TyD (O : Own) : D → String → Prop
  | non : TyD O .non "NoneType"
  | bl (b : Bool) : TyD O (.bl b) "bool"
  | int (i : Int) : TyD O (.int i) "int"
  | str (x : Str) : TyD O (.str x) "str"
  | tup (ds : List D) : TyD O (.tup ds) "tuple"
  | lst (ds : List D) : TyD O (.lst ds) "list"
  | own {a : Addr} {ds : List D} (h : (a, OV.lst ds) ∈ O) : TyD O (.obj a) "list"
theorem tyX_of {K : PySem.W.Frag} {B : Bs} {G : Sl} {O : Own} {F H : Hp} {σ : L2.St} {x : V} {d : D} {t : String} (S : Sat K B G O F σ H) (r : Rep K F x d) (h : TyD O d t) : TyX K H x (.type t) := by
  cases h with
  | non => cases r; exact .base .non
  | bl b => cases r; exact .base (.bl b)
  | int i => cases r; exact .base (.int i)
  | str z => cases r; exact .base (.str z)
  | tup ds =>
    cases r with
    | tup hq _ =>
      rcases sqT_mono S.ex hq with (e | ⟨o, e⟩) | ⟨o, its, n, e, c, _⟩
      · exact .base (.tup e)
      · exact .fTuple e
      · exact .kTuple e c
  | lst ds =>
    cases r with
    | lst hq _ =>
      rcases S.ex.seq hq with (e | ⟨o, e⟩) | ⟨o, its, n, e, c, _⟩
      · exact .base (.lst e)
      · exact .base (.frz e)
      · exact .kList e c
  | own hm =>
    cases r
    obtain ⟨_, vs, hv, _⟩ := S.own _ hm
    exact .base (.lst hv)
section
variable {M : Mach} {X : Cx} {N : List Str} {sc : Scope} {vb lb gb : Str → Bool} {B : Bs} {G : Sl} {O : Own} {e a b c : Expr} {es : List Expr} {pos p : Pos} {d d1 d2 : D} {ds : List D} {E : EndsD}
theorem pv_isi {t n : String} {q : Bool} (C : Cxt M X N sc vb lb gb) (hm : M.mg "isinstance" = none) (hg : gb "isinstance" = true) (ha : PEv X B G O a d) (ht : TyD O d t) (hb : PEv X B G O b (.ty n)) (hk : kitB t n = some q) (sa : Plain1 a := by exact fun _ _ => star_cons rfl) (sb : Plain1 b := by exact fun _ _ => star_cons rfl) :
    PEv X B G O (.Call (.Name "isinstance" p) [a, b] [] pos) (.bl q) :=
  we_callB (R := fun xs O Φ => ∃ d t n q, xs = [d, .ty n] ∧ TyD O d t ∧ kitB t n = some q ∧ Φ (.bl q) O) C call_isi (fun B G O F σ H xs ds Φ S r h Q k => by
    obtain ⟨d, t, n, q, rfl, ht, hk, z⟩ := h
    obtain ⟨v, w, rfl, rv, rw⟩ := reps2 r
    cases rw
    exact ⟨v, .ty n, _, _, q, rfl, .ty n, tyX_of S rv ht, kit_ty hk, k _ F H _ O S (Same.refl _) (.bl _) z⟩) hm hg (by decide +kernel) (wa_cons (we_pv ha (wa_cons (we_pv hb (wa_nil ⟨d, t, n, q, rfl, ht, hk, rfl, rfl⟩)) (sb _ _))) (sa _ _)) (he := sa _ _) (hpl := plain_any sb)
/-- a op b op c, ints -/
theorem pv_chain {op op' : CmpOp} {g g' : Int → Int → Bool} {i j l : Int} (ho : OpR X (compareOp op) (rI0 fun i j => .bl (g i j))) (ho' : OpR X (compareOp op') (rI0 fun i j => .bl (g' i j))) (ha : PEv X B G O a (.int i)) (hb : PEv X B G O b (.int j)) (hc : PEv X B G O c (.int l)) (hm : lastMarks [op, op'] [b, c] = false := by with_unfolding_all rfl) :
    PEv X B G O (.Compare a [op, op'] [b, c] pos) (.bl (g i j && g' j l)) := fun F σ H S Q k => sem (pe_chain ho ho' pe_sem pe_sem pe_sem hm)
  (ha F σ H S _ fun v F1 H1 d1 O1 S1 e1 r1 p1 => by
    obtain ⟨rfl, rfl⟩ := p1
    cases r1
    refine hb F1 σ H1 S1 _ fun v F2 H2 d2 O2 S2 e2 r2 p2 => ?_
    obtain ⟨rfl, rfl⟩ := p2
    cases r2
    refine ⟨i, j, rfl, rfl, g i j, rfl, ?_⟩
    cases hg : g i j with
    | false => exact k _ F2 H2 _ O2 S2 (e1.trans e2) (.bl _) ⟨by rw [hg]; rfl, rfl⟩
    | true =>
      refine hc F2 σ H2 S2 _ fun v F3 H3 d3 O3 S3 e3 r3 p3 => ?_
      obtain ⟨rfl, rfl⟩ := p3
      cases r3
      exact ⟨j, l, rfl, rfl, k _ F3 H3 _ O3 S3 ((e1.trans e2).trans e3) (.bl _) ⟨by rw [hg]; rfl, rfl⟩⟩)
theorem pv_leLe {i j l : Int} (ha : PEv X B G O a (.int i)) (hb : PEv X B G O b (.int j)) (hc : PEv X B G O c (.int l)) (hm : lastMarks [.LtE, .LtE] [b, c] = false := by with_unfolding_all rfl) : PEv X B G O (.Compare a [.LtE, .LtE] [b, c] pos) (.bl (decide (i ≤ j) && decide (j ≤ l))) := pv_chain op_le op_le ha hb hc hm
theorem pt_ofv {c : Bool} (h : PEv X B G O e (.bl c)) (he : ∀ whole, isTrue e X.env whole = (do let v ← whole; standAt e.pos; holding [v] (truthy v)) := by intro _; rfl) : PTv X B G O e c := pt_v h he
/-- x in (a, b, ..): scalars -/
def flatD : D → Bool
  | .non => true
  | .bl _ => true
  | .int _ => true
  | .str _ => true
  | _ => false
def eqF : D → D → Bool
  | .non, .non => true
  | .bl a, .bl b => a == b
  | .bl a, .int b => (if a then 1 else 0) == b
  | .int a, .bl b => a == (if b then 1 else 0)
  | .int a, .int b => a == b
  | .str a, .str b => a == b
  | _, _ => false
theorem flat_rep {K : PySem.W.Frag} {F : Hp} {x : V} {d : D} (r : Rep K F x d) (h : flatD d = true) : flatV x = true := by
  cases r <;> first | rfl | cases h
theorem eqF_rep {K : PySem.W.Frag} {F : Hp} {x y : V} {d e : D} (r : Rep K F x d) (q : Rep K F y e) (h : flatD d = true) (h2 : flatD e = true) : eqV x y = eqF d e := by
  cases r <;> cases q <;> first | rfl | cases h | cases h2
theorem flats_rep {K : PySem.W.Frag} {F : Hp} {y : V} {e : D} (q : Rep K F y e) (h2 : flatD e = true) : ∀ {xs : List V} {ds : List D}, Reps K F xs ds → ds.all flatD = true → xs.all flatV = true ∧ inV y xs = ds.any fun d => eqF d e
  | _, _, .nil, _ => ⟨rfl, rfl⟩
  | _, _, .cons r t, h => by
    rw [List.all_cons, Bool.and_eq_true] at h
    obtain ⟨t1, t2⟩ := flats_rep q h2 t h.2
    refine ⟨by rw [List.all_cons, flat_rep r h.1, t1]; rfl, ?_⟩
    unfold inV at t2 ⊢
    rw [List.any_cons, List.any_cons, t2, eqF_rep r q h.1 h2]
def dIn (f : Bool → Bool) : DR2 := fun x y O Φ => ∃ ds, Items O y ds ∧ flatD x = true ∧ ds.all flatD = true ∧ Φ (.bl (f (ds.any fun d => eqF d x))) O
theorem dop_in : DOp X (rIn X.K false) (dIn id) := fun B G O F σ H x y dx dy Φ S rx ry h Q k => by
  obtain ⟨ds, it, h1, h2, p⟩ := h
  obtain ⟨a, vs, rfl, rs, hq⟩ := items_ok S ry it
  obtain ⟨q1, q2⟩ := flats_rep rx h1 rs h2
  refine ⟨a, vs, rfl, hq, flat_rep rx h1, q1, ?_⟩
  rw [if_neg Bool.false_ne_true]
  rw [q2]
  exact k _ F H _ O S (Same.refl _) (.bl _) p
theorem pv_in (ha : PEv X B G O a d1) (hb : PEv X B G O b d2) (it : Items O d2 ds) (f1 : flatD d1 = true) (f2 : ds.all flatD = true) (hm : behindInMarks .In b = false := by rfl) : PEv X B G O (.Compare a [.In] [b] pos) (.bl (ds.any fun d => eqF d d1)) :=
  pv_cmp op_in_seq dop_in hm ha hb ⟨ds, it, f1, f2, rfl, rfl⟩
variable {x : Str} {k : Nat} {sp : DSp}
theorem pv_call {v : D} (C : Cxt M X N sc vb lb gb) (f : GFn M x k sp) (hr : Room k X.A) (hg : gb x = true) (ha : PAv X B G O (e :: es) ds) (h : ∀ Φ Ψ, Φ v O → sp ds O Φ Ψ)
    (he : starEach (e :: es) X.env = (false, eval e X.env) :: starEach es X.env := by exact star_cons rfl) (hpl : (backTo pos (starEach es X.env)).any (·.1) = false := by rfl) : PEv X B G O (.Call (.Name x p) (e :: es) [] pos) v :=
  we_call C f hr takes_no hg (wa_pv ha ⟨O, [], by rw [List.append_nil], h _ _ ⟨rfl, List.append_nil O⟩⟩) he hpl
theorem pv_call' {v : D} (C : Cxt M X N sc vb lb gb) (f : GFn M x k sp) (hr : Room k X.A) (hg : gb x = true) (ha : PAv X B G O (e :: es) ds) (h : ∀ Φ Ψ, Φ v [] → sp ds [] Φ Ψ)
    (he : starEach (e :: es) X.env = (false, eval e X.env) :: starEach es X.env := by exact star_cons rfl) (hpl : (backTo pos (starEach es X.env)).any (·.1) = false := by rfl) : PEv X B G O (.Call (.Name x p) (e :: es) [] pos) v :=
  we_call C f hr takes_no hg (wa_pv ha ⟨[], O, List.Perm.refl _, h _ _ ⟨rfl, rfl⟩⟩) he hpl
end
end Dl
set_option Elab.async false
set_option linter.all false
set_option maxRecDepth 100000
set_option maxHeartbeats 2000000
namespace Dl
open PySem PySem.Spec PyProof.Rows L2
theorem zipD_map {α β : Type} (f : α → D) (g : β → D) (xs : List α) (ys : List β) : zipD (xs.map f) (ys.map g) = (xs.zip ys).map fun p => .tup [f p.1, g p.2] := by
  unfold zipD
  induction xs generalizing ys with
  | nil => rfl
  | cons x r ih =>
    cases ys with
    | nil => rfl
    | cons y t =>
      rw [List.map_cons, List.map_cons, List.zipWith_cons_cons, List.zip_cons_cons, List.map_cons, ih]
theorem cut_from {xs : List D} {j : Nat} : cutD xs (some (j : Int)) none = xs.drop j := by
  unfold cutD
  by_cases h : j ≤ xs.length
  · have e : HT.sIx xs.length 0 (some (j : Int)) = j := by
      rw [HT.sIx_nat]
      omega
    have e2 : HT.sIx xs.length xs.length none = xs.length := rfl
    rw [e, e2, List.take_of_length_le (by rw [List.length_drop]; exact Nat.le_refl _)]
  · have e : HT.sIx xs.length 0 (some (j : Int)) = xs.length := by
      rw [HT.sIx_nat]
      omega
    rw [e, List.drop_eq_nil_of_le (Nat.le_refl _), List.drop_eq_nil_of_le (by omega), List.take_nil]
section
variable {M : Mach} {X : Cx} {N : List Str} {sc : Scope} {vb lb gb : Str → Bool} {B : Bs} {G : Sl} {O : Own} {e a b elt : Expr} {es : List Expr} {pos p : Pos} {d d1 d2 : D} {ds : List D} {E : EndsD}
theorem pv_allLcA {α : Type} {xs : List α} {enc : α → D} {f : α → Bool} {lk : Own} {scope : Scope} {own : List (Str × Nat)} {tg iter : Expr} {ifs : List Expr} {lpos : Pos} (C : Cxt M X N sc vb lb gb) (hm : M.mg "all" = none) (hg : gb "all" = true) (hb : blkC N sc scope own = true)
    (hi : WIv X B G O tg iter (xs.map enc) lk) (hk : ∀ p ∈ lk, p ∈ O) (hl : xs.length ≤ 1000000) (ht : ∀ x ∈ xs, LcPure M X N sc scope G (own.map (·.2)) O tg ifs elt (enc x) true (.bl (f x))) (hs : ∀ x, foldedSetIterable iter X.env x = pure x := by intro _; rfl) :
    PEv X B G O (.Call (.Name "all" p) [.ListComp elt [⟨tg, iter, ifs, 0⟩] scope lpos] [] pos) (.bl (xs.all f)) :=
  (pv_all C (pv_frz (pn_lcA (f := fun x => .bl (f x)) C hb hi hk hl ht hs)) (by
    have : xs.map (fun x => D.bl (f x)) = (xs.map f).map D.bl := by rw [List.map_map]; rfl
    rw [this]
    exact .lst) hm hg).to (by rw [List.all_map] <;> rfl)
end
end Dl
set_option Elab.async false
set_option linter.all false
set_option maxRecDepth 100000
set_option maxHeartbeats 2000000
namespace Dl
open PySem PySem.Spec PyProof.Rows L2
theorem kt_NoneType_int : kitB "NoneType" "int" = some false := by decide +kernel
theorem kt_NoneType_bool : kitB "NoneType" "bool" = some false := by decide +kernel
theorem kt_NoneType_str : kitB "NoneType" "str" = some false := by decide +kernel
theorem kt_NoneType_tuple : kitB "NoneType" "tuple" = some false := by decide +kernel
theorem kt_NoneType_list : kitB "NoneType" "list" = some false := by decide +kernel
theorem kt_bool_int : kitB "bool" "int" = some true := by decide +kernel
theorem kt_bool_bool : kitB "bool" "bool" = some true := by decide +kernel
theorem kt_bool_str : kitB "bool" "str" = some false := by decide +kernel
theorem kt_bool_tuple : kitB "bool" "tuple" = some false := by decide +kernel
theorem kt_bool_list : kitB "bool" "list" = some false := by decide +kernel
theorem kt_int_int : kitB "int" "int" = some true := by decide +kernel
theorem kt_int_bool : kitB "int" "bool" = some false := by decide +kernel
theorem kt_int_str : kitB "int" "str" = some false := by decide +kernel
theorem kt_int_tuple : kitB "int" "tuple" = some false := by decide +kernel
theorem kt_int_list : kitB "int" "list" = some false := by decide +kernel
theorem kt_str_int : kitB "str" "int" = some false := by decide +kernel
theorem kt_str_bool : kitB "str" "bool" = some false := by decide +kernel
theorem kt_str_str : kitB "str" "str" = some true := by decide +kernel
theorem kt_str_tuple : kitB "str" "tuple" = some false := by decide +kernel
theorem kt_str_list : kitB "str" "list" = some false := by decide +kernel
theorem kt_tuple_int : kitB "tuple" "int" = some false := by decide +kernel
theorem kt_tuple_bool : kitB "tuple" "bool" = some false := by decide +kernel
theorem kt_tuple_str : kitB "tuple" "str" = some false := by decide +kernel
theorem kt_tuple_tuple : kitB "tuple" "tuple" = some true := by decide +kernel
theorem kt_tuple_list : kitB "tuple" "list" = some false := by decide +kernel
theorem kt_list_int : kitB "list" "int" = some false := by decide +kernel
theorem kt_list_bool : kitB "list" "bool" = some false := by decide +kernel
theorem kt_list_str : kitB "list" "str" = some false := by decide +kernel
theorem kt_list_tuple : kitB "list" "tuple" = some false := by decide +kernel
theorem kt_list_list : kitB "list" "list" = some true := by decide +kernel
section
variable {M : Mach} {X : Cx} {N : List Str} {sc : Scope} {vb lb gb : Str → Bool} {B : Bs} {G : Sl} {O : Own} {pos : Pos}
theorem pv_tInt (C : Cxt M X N sc vb lb gb) (hm : M.mg "int" = none) (hg : gb "int" = true) : PEv X B G O (.Name "int" pos) (.ty "int") := pv_bltnTy C hm rfl hg
theorem pv_tBool (C : Cxt M X N sc vb lb gb) (hm : M.mg "bool" = none) (hg : gb "bool" = true) : PEv X B G O (.Name "bool" pos) (.ty "bool") := pv_bltnTy C hm rfl hg
theorem pv_tStr (C : Cxt M X N sc vb lb gb) (hm : M.mg "str" = none) (hg : gb "str" = true) : PEv X B G O (.Name "str" pos) (.ty "str") := pv_bltnTy C hm rfl hg
theorem pv_tTup (C : Cxt M X N sc vb lb gb) (hm : M.mg "tuple" = none) (hg : gb "tuple" = true) : PEv X B G O (.Name "tuple" pos) (.ty "tuple") := pv_bltnTy C hm rfl hg
theorem pv_tLst (C : Cxt M X N sc vb lb gb) (hm : M.mg "list" = none) (hg : gb "list" = true) : PEv X B G O (.Name "list" pos) (.ty "list") := pv_bltnTy C hm rfl hg
end
end Dl
set_option Elab.async false
set_option linter.all false
set_option maxRecDepth 100000
set_option maxHeartbeats 2000000
namespace Dl
open PySem PySem.Spec PyProof.Rows L2
theorem atLast {ds : List D} {y : D} (h : ds.getLast? = some y) : atI ds (-1) = some y := by
  cases ds with
  | nil => cases h
  | cons x r =>
    have e : ixN (x :: r).length (-1) = some r.length := by
      unfold ixN
      rw [if_neg (by omega), if_pos (by rw [List.length_cons]; omega)]
      rw [List.length_cons]
      exact congrArg some (by omega)
    unfold atI
    rw [e]
    rw [List.getLast?_eq_getElem?] at h
    exact h
theorem ix2 {x y z : D} {r : List D} : ixN (x :: y :: z :: r).length 2 = some 2 := by
  unfold ixN
  rw [if_pos (by omega), if_pos (by rw [List.length_cons, List.length_cons, List.length_cons]; omega)]
  rfl
theorem ixLast {x : D} {r : List D} : ixN (x :: r).length (-1) = some r.length := by
  unfold ixN
  rw [if_neg (by omega), if_pos (by rw [List.length_cons]; omega)]
  rw [List.length_cons]
  exact congrArg some (by omega)
theorem ixLast' {ds : List D} (h : ds ≠ []) : ixN ds.length (-1) = some (ds.length - 1) := by
  cases ds with
  | nil => exact absurd rfl h
  | cons x r => exact ixLast
theorem set_last {α : Type} {xs : List α} {x y : α} : (xs ++ [x]).set ((xs ++ [x]).length - 1) y = xs ++ [y] := by
  rw [List.length_append, List.length_singleton, Nat.add_sub_cancel, List.set_append, if_neg (Nat.lt_irrefl _), Nat.sub_self] <;> rfl
section
variable {M : Mach} {X : Cx} {N : List Str} {sc : Scope} {vb lb gb : Str → Bool} {B : Bs} {G : Sl} {O : Own} {e a b elt : Expr} {es : List Expr} {pos p : Pos} {d d1 d2 : D} {ds : List D} {E : EndsD}
theorem PWv.to {c c' : Bool} (h : PWv X B G O e c) (k : c = c') : PWv X B G O e c' := k ▸ h
theorem pv_neg {i : Int} (h : PEv X B G O a (.int i)) : PEv X B G O (.UnaryOp .USub a pos) (.int (-i)) := fun F σ H S Q k => sem (pe_un un_neg pe_sem) (h F σ H S _ fun v F1 H1 d O1 S1 e1 r1 p1 => by
  obtain ⟨rfl, rfl⟩ := p1
  cases r1
  exact ⟨i, rfl, k _ F1 H1 _ O1 S1 e1 (.int _) ⟨rfl, rfl⟩⟩)
theorem lc_pure {α : Type} {xs : List α} {enc : α → D} {c : α → Bool} {f : α → D} {lk : Own} {scope : Scope} {own : List (Str × Nat)} {tg iter : Expr} {ifs : List Expr} {Φ : List D → Own → Prop}
    (hi : WIv X B G O tg iter (xs.map enc) lk) (hk : ∀ p ∈ lk, p ∈ O) (hl : xs.length ≤ 1000000) (ht : ∀ x ∈ xs, LcPure M X N sc scope G (own.map (·.2)) O tg ifs elt (enc x) (c x) (f x)) (q : Φ ((xs.filter c).map f) O) :
    Lc M X N sc scope B G O (own.map (·.2)) tg iter ifs elt Φ := wi_v hi ⟨fun i acc O' => O' = O ∧ acc = ((xs.take i).filter c).map f, ⟨rfl, rfl⟩, fun i acc O' _ z p hp => by rw [z.1]; exact hk p hp, fun i d acc O' hd z => by
    obtain ⟨rfl, rfl⟩ := z
    rw [List.getElem?_map] at hd
    cases e : xs[i]? with
    | none => rw [e] at hd; cases hd
    | some x =>
      rw [e] at hd
      have hd' : enc x = d := Option.some.inj hd
      subst hd'
      have tk : xs.take (i + 1) = xs.take i ++ [x] := by rw [List.take_add_one, e] <;> rfl
      have hlen : (((xs.take i).filter c).map f).length ≤ i := by
        rw [List.length_map]
        exact Nat.le_trans (List.length_filter_le _ _) (by rw [List.length_take]; exact Nat.min_le_left _ _)
      have hi' : i < xs.length := (List.getElem?_eq_some_iff.mp e).1
      refine (ht x (List.mem_of_getElem? e)).turn (fun hc => ⟨by omega, rfl, ?_⟩) (fun hc => ⟨rfl, ?_⟩)
      · rw [tk, List.filter_append, List.map_append, List.filter_cons, if_pos hc] <;> rfl
      · rw [tk, List.filter_append, List.map_append, List.filter_cons, if_neg (by rw [hc]; decide), List.filter_nil, List.map_nil, List.append_nil], fun acc O' z => by
    obtain ⟨rfl, rfl⟩ := z
    rw [List.length_map, List.take_length]
    exact q⟩
/-- y = [..], pure, on one line: y's list is owned -/
theorem ws_setLcP {α : Type} {xs : List α} {enc : α → D} {c : α → Bool} {f : α → D} {lk : Own} {y : Str} {i : Nat} {g : D → Sl} {py spos : Pos} {scope : Scope} {own : List (Str × Nat)} {tg iter : Expr} {ifs : List Expr} (C : Cxt M X N sc vb lb gb) (hy : SetAt N G y i g) (hyl : sc.names.lookup y = some .local) (hb : blkC N sc scope own = true)
    (hi : WIv X B G O tg iter (xs.map enc) lk) (hk : ∀ p ∈ lk, p ∈ O) (hlen : xs.length ≤ 1000000) (ht : ∀ x ∈ xs, LcPure M X N sc scope G (own.map (·.2)) O tg ifs elt (enc x) (c x) (f x)) (q : ∀ p, E.nx (g (.obj p)) ((p, .lst ((xs.filter c).map f)) :: O))
    (hl : (py.line == pos.line) = true := by rfl) (hn : (scope.names.any fun (n, k) => n == y && (k == .local || k == .cell)) = false := by rfl) (hs : ∀ x, foldedSetIterable iter X.env x = pure x := by intro _; rfl) :
    WS X B G O (.Assign [.Name y py] (.ListComp elt [⟨tg, iter, ifs, 0⟩] scope pos) spos) E := ws_setLc (Φ := fun _ _ => True) C hy hyl hl hn hb (lc_pure (Φ := fun ds O' => ∀ p, E.nx (g (.obj p)) ((p, .lst ds) :: O')) hi hk hlen ht q) hs
end
end Dl
set_option Elab.async false
set_option linter.all false
set_option maxRecDepth 100000
set_option maxHeartbeats 2000000
namespace Dl
open PySem PySem.Spec PyProof.Rows L2
section
variable {M : Mach} {X : Cx} {N : List Str} {sc : Scope} {vb lb gb : Str → Bool} {B : Bs} {G : Sl} {O : Own} {e a b elt : Expr} {es : List Expr} {pos p : Pos} {d d1 d2 : D} {ds : List D} {E : EndsD}
theorem lc_of {α : Type} {enc : α → D} {c : α → Bool} {f : α → D} {scope : Scope} {own : List (Str × Nat)} {tg iter : Expr} {ifs : List Expr} {Φ : List D → Own → Prop}
    (h : WI X B G O tg iter fun ds lk O1 => ∃ xs : List α, ds = xs.map enc ∧ (∀ p ∈ lk, p ∈ O1) ∧ xs.length ≤ 1000000 ∧ (∀ x ∈ xs, LcPure M X N sc scope G (own.map (·.2)) O1 tg ifs elt (enc x) (c x) (f x)) ∧ Φ ((xs.filter c).map f) O1) :
    Lc M X N sc scope B G O (own.map (·.2)) tg iter ifs elt Φ := h.mono fun ds lk O1 z => by
  obtain ⟨xs, rfl, hk, hl, ht, q⟩ := z
  refine ⟨fun i acc O' => O' = O1 ∧ acc = ((xs.take i).filter c).map f, ⟨rfl, rfl⟩, fun i acc O' _ z p hp => by rw [z.1]; exact hk p hp, fun i d acc O' hd z => ?_, fun acc O' z => ?_⟩
  · obtain ⟨rfl, rfl⟩ := z
    rw [List.getElem?_map] at hd
    cases e : xs[i]? with
    | none => rw [e] at hd; cases hd
    | some x =>
      rw [e] at hd
      have hd' : enc x = d := Option.some.inj hd
      subst hd'
      have tk : xs.take (i + 1) = xs.take i ++ [x] := by rw [List.take_add_one, e] <;> rfl
      have hlen : (((xs.take i).filter c).map f).length ≤ i := by
        rw [List.length_map]
        exact Nat.le_trans (List.length_filter_le _ _) (by rw [List.length_take]; exact Nat.min_le_left _ _)
      have hi' : i < xs.length := (List.getElem?_eq_some_iff.mp e).1
      refine (ht x (List.mem_of_getElem? e)).turn (fun hc => ⟨by omega, rfl, ?_⟩) (fun hc => ⟨rfl, ?_⟩)
      · rw [tk, List.filter_append, List.map_append, List.filter_cons, if_pos hc] <;> rfl
      · rw [tk, List.filter_append, List.map_append, List.filter_cons, if_neg (by rw [hc]; decide), List.filter_nil, List.map_nil, List.append_nil]
  · obtain ⟨rfl, rfl⟩ := z
    rw [List.length_map, List.take_length]
    exact q
end
end Dl
set_option Elab.async false
set_option linter.all false
set_option maxRecDepth 100000
set_option maxHeartbeats 2000000
namespace Dl
open PySem PySem.Spec PyProof.Rows L2
end Dl
set_option Elab.async false
set_option linter.all false
set_option maxRecDepth 100000
set_option maxHeartbeats 4000000
namespace Dl
open PySem PySem.Spec PyProof.Rows L2
section
variable {P : Program} {w : World} {A : Around} {E : Value → Shared → Prop} {s : Shared}
abbrev emptySet (w : World) : Obj := { cls := .type "set", dict := none, data := .set #[] 0 (.fresh 0 0 (!w.params.followText "set-order")) }
/-- what the initialiser of a set leaves -/
def SetDone (w : World) (s : Shared) (ns : List Int) (r : Value) (s₂ : Shared) : Prop := r = .none ∧ ∃ h' tk c, s₂ = { s with heap := h', toks := tk } ∧ SetR w h' s.heap.objs.size (fun j => decide (j ∈ ns)) c ∧ c ≤ ns.length ∧ (∀ b o, s.heap.get? b = some o → h'.get? b = some o)
theorem call_set_lstI {l : Addr} {items : Array Value} (ns : List Int) {Q : Value → Shared → Prop} (hh : A.handled = none) (hl : s.heap.IsList l items) (hit : IntsAre items.toList ns) (hb : ns.length + 1 < scanBound)
    (h : ∀ (h' : Heap) (tk c : Nat), SetR w h' s.heap.objs.size (fun j => decide (j ∈ ns)) c → c ≤ ns.length → (∀ b o, s.heap.get? b = some o → h'.get? b = some o) → Q (.ref s.heap.objs.size) { s with heap := h', toks := tk }) :
    wpAny (model P w) A (call (.type "set") [.ref l]) Q E s := by
  have hisz : items.size = ns.length := by
    have q := IntsAre.length hit
    rw [Array.length_toList] at q
    exact q
  have hval : ∀ (i : Nat) (v : Value), items[i]? = some v → ∃ k t, ns[i]? = some k ∧ v = .int k t := fun i v hv => by
    have hi : i < ns.length := by rw [← hisz]; exact (Array.getElem?_eq_some_iff.mp hv).1
    obtain ⟨t, e⟩ := PyProof.Rows.IntsAre.int_at hit i v (by rw [Array.getElem?_toList]; exact hv)
    refine ⟨ns[i], t, List.getElem?_eq_getElem hi, ?_⟩
    rw [e, List.getD_eq_getElem?_getD, List.getElem?_eq_getElem hi] <;> rfl
  obtain ⟨c, tl, hmro⟩ := F.called_set.mro
  have hmade := F.called_set.made
  have hsub := F.called_set.sub
  have h1 := F.called_set.notType
  have h2 := F.called_set.canCreate
  have hct := F.typeCall_set_1 (.ref l)
  refine wpAny_call (codeAny_of_tree ?_)
  show wpAny _ _ (callAny (.type "set") _) _ _ _
  refine wpAny_pure ⟨Code.quiet_builtin _ (by decide +kernel), codeAny_builtin F.entry_type_call ?_⟩
  rw [Around.under_plain (weight_type_call_type "set" [.ref l] []) rfl]
  repeat (any_goals (first | assumption | wp_step))
  refine codeAny_mono (code_set_led1 (.ref l) (E := E) (Q₁ := fun obj s₁ => obj = .ref s.heap.objs.size ∧ s₁ = { s with heap := s.heap.push (emptySet w) }) ⟨rfl, rfl⟩) fun r s₁ hr => ?_
  cases r with
  | error e => exact hr
  | ok fl =>
  cases fl with
  | ret obj =>
    obtain ⟨rfl, rfl⟩ := hr
    have hS : (s.heap.push (emptySet w)).get? s.heap.objs.size = some (emptySet w) := Heap.get?_push_size _ rfl
    have hT : Shared.TypeIs { s with heap := s.heap.push (emptySet w) } (.ref s.heap.objs.size) "set" := ⟨_, hS, rfl⟩
    have hli := F.called_set.init.lookup
    have hbi := F.called_set.init.bind (.ref s.heap.objs.size)
    repeat (any_goals (first | assumption | wp_step))
    refine codeAny_mono (codeAny_call_builtin (R := wants (SetDone w s ns) E) F.called_set.init.plain F.entry_set_init (check_set_init_1 hT ?_)) fun r₂ s₂ hr₂ => ?_
    · have hl1 : (s.heap.push (emptySet w)).IsList l items := hl.push _
      obtain ⟨ol, hol, hcl, nl, hdl⟩ := hl
      obtain ⟨ocls, odict, odata, oslots⟩ := ol
      simp only at hcl hdl
      subst hcl; subst hdl
      have hol' : (s.heap.push (emptySet w)).get? l = some { cls := .type "list", dict := odict, data := .seq items nl, slots := oslots } := Heap.get?_push_of_some _ hol
      have hsls := F.sub_list_set
      have hslf := F.sub_list_frozenset
      have hne : (Value.type "list" == Value.type "dict") = false := by decide
      unfold Builtin.«set.__init__» noKeywords Builtin.Frozenset.updateFrom
      generalize hPI : pyIter = PI
      wp_walk
      subst hPI
      refine wpAny_pyIter_list hl1 ?_
      refine wpAny_bind (wpAny_runValue ?_)
      have hlS : l < s.heap.objs.size := Heap.lt_size hol
      have hh3 : A.in1.in1.in1.handled = none := by simp [hh]
      have hneI : l ≠ (s.heap.push (emptySet w)).objs.size := by
        rw [Heap.size_push]; exact Nat.ne_of_lt (Nat.lt_succ_of_lt hlS)
      have hSf : s.heap.objs.size ∉ [(s.heap.push (emptySet w)).objs.size, l] := by
        rw [Heap.size_push]; simp only [List.mem_cons, List.mem_singleton, List.not_mem_nil, or_false, not_or]
        exact ⟨Nat.ne_of_lt (Nat.lt_succ_self _), Nat.ne_of_gt hlS⟩
      refine set_update_ints ((Walks.list hh3 _ l hneI items).toS) s.heap.objs.size hSf ns hisz hb hval (items.size - 0) 0 _ (by omega) (Nat.zero_le _) ⟨⟨_, Heap.get?_push_size _ rfl, rfl, rfl⟩, (hl1.push _)⟩ ⟨0, Nat.le_refl 0, setR_new_at (Heap.get?_push_of_some _ hS)⟩ ?_
      intro s' c' hm hc' hS'
      obtain ⟨h', g2, d', tk', os'⟩ := s'
      have eg : g2 = s.gens := hm.gens
      have ed : d' = s.drawn := hm.drawn
      have eo : os' = s.os := hm.os
      subst eg; subst ed; subst eo
      show wpAny _ _ _ _ _ _
      refine wpAny_pure ?_
      show wpAny _ _ (ret Value.none) _ _ _
      rw [hisz] at hc'
      refine wpAny_pure ⟨rfl, h', tk', c', rfl, hS', hc', fun b o e => ?_⟩
      have hb0 : b < s.heap.objs.size := Heap.lt_size e
      have hb2 : b ≠ (s.heap.push (emptySet w)).objs.size := by
        rw [Heap.size_push]; exact Nat.ne_of_lt (Nat.lt_succ_of_lt hb0)
      exact hm.heap b o (by simp only [List.mem_cons, List.mem_singleton, List.not_mem_nil, or_false, not_or]; exact ⟨Nat.ne_of_lt hb0, hb2⟩) (Heap.get?_push_of_some _ (Heap.get?_push_of_some _ e))
    · cases r₂ with
      | error e => exact hr₂
      | ok fl₂ =>
        cases fl₂ with
        | ret r =>
          obtain ⟨rfl, h', tk, c', rfl, hS', hc', hk'⟩ := hr₂
          repeat (any_goals (first | assumption | wp_step))
          exact h _ _ _ hS' hc' hk'
        | _ => exact hr₂.elim
  | _ => exact hr.elim
end
end Dl
set_option Elab.async false
set_option linter.all false
set_option maxRecDepth 100000
set_option maxHeartbeats 2000000
namespace Dl
open PySem PySem.Spec PyProof.Rows L2
section
variable {X : Cx}
def tSortedSetI (K : PySem.W.Frag) (ta : TE) : TE := fun σ H Q => ta σ H fun x H1 => ∃ (l : Addr) (ns : List Int), x = .ref l ∧ SqL K H1 l (ns.map V.int) ∧ ns.length < 64 ∧
  ∀ (ms : List Int) (p : Addr), ms.Pairwise (· < ·) → (∀ k : Int, k ∈ ms ↔ k ∈ ns) → H1 p = none → Q (.ref p) (upd H1 p (.lst (ms.map V.int)))
theorem pe_sortedSetI {a : Expr} {ta : TE} {p p2 q pos : Pos} (hg : Gl X "sorted") (hm : X.mg "sorted" = none) (hg2 : Gl X "set") (hm2 : X.mg "set" = none) (ha : PE X a ta) (hc : X.calm = true)
    (na : starEach [a] X.env = (false, eval a X.env) :: starEach [] X.env := by rfl) : PE X (.Call (.Name "sorted" p) [.Call (.Name "set" p2) [a] [] q] [] pos) (tSortedSetI X.K ta) := by
  refine ⟨fun pins s σ H Q I h => ?_⟩
  refine Call_ (ld_blt I hg hm (show bootBuiltins "sorted" = some (.builtin "sorted") by decide +kernel) ?_)
  refine PyProof.Rows.callWith_builtin1 (PyProof.Rows.args_cons ?_ rfl) rfl rfl
  refine Call_ (ld_blt I hg2 hm2 boot_set ?_)
  refine PyProof.Rows.callWith_type1 (PyProof.Rows.args_cons (thn (ha.run pins s σ H _ I h) fun v s1 ⟨x, H1, I1, r1, q1⟩ => PyProof.Rows.args_nil ?_) na) na rfl
  obtain ⟨l, ns, rfl, hq, h64, q1⟩ := q1
  cases r1
  obtain ⟨its, r, pl, hz⟩ := I1.list hq
  refine call_set_lstI ns (I1.ok.hd hc) pl.isList (by simpa using RZ.intsAre_vals r) (by unfold scanBound; omega) fun h' tk c R hcn k1 => ?_
  refine PyProof.Rows.args_nil ?_
  have I2 : Inv X pins σ H1 { s1 with heap := h', toks := tk } := I1.kept fun b o e => k1 b o e
  refine sorted_set R (I2.ok.hd hc) (by omega) fun s' p out c ms k g o hp hg hi hs hm hl => ?_
  have hlen : (ms.map V.int).length ≤ sizeLine := by rw [List.length_map, hl, sizeLine_eq]; omega
  have hn : H1 p = none := I2.hok.fresh hp
  have J : Inv X pins σ (upd H1 p (.lst (ms.map V.int))) { ({ s1 with heap := h', toks := tk } : Shared) with heap := s'.heap, gens := s'.gens, drawn := s'.drawn, toks := s'.toks } :=
    I2.call (ch := []) (Un.laid k hp hn) (I2.hok.laid k hp ⟨hlen, out.toList, c, vals_of_ints hi, hg⟩) (by rw [g]; exact I2.bare) (fun _ z => nomatch z)
  have e : s' = { ({ s1 with heap := h', toks := tk } : Shared) with heap := s'.heap, gens := s'.gens, drawn := s'.drawn, toks := s'.toks } := by
    cases s'
    cases s1
    cases o
    rfl
  rw [e]
  exact ⟨.ref p, _, J, rfl, q1 ms p hs (fun k => by rw [hm k]; exact decide_eq_true_iff) hn⟩
end
section
variable {M : Mach} {X : Cx} {N : List Str} {sc : Scope} {vb lb gb : Str → Bool} {B : Bs} {G : Sl} {O : Own} {a : Expr} {pos p p2 q : Pos} {d1 : D}
theorem wn_sortedSet {ns : List Int} {Φ : List D → Own → Prop} (C : Cxt M X N sc vb lb gb) (hm : M.mg "sorted" = none) (hg : gb "sorted" = true) (hm2 : M.mg "set" = none) (hg2 : gb "set" = true) (ha : PEv X B G O a d1) (it : ItemsL O d1 (ns.map D.int)) (h64 : ns.length < 64)
    (h : ∀ ms : List Int, ms.Pairwise (· < ·) → (∀ k : Int, k ∈ ms ↔ k ∈ ns) → Φ (ms.map D.int) O) (sa : Plain1 a := by exact fun _ _ => star_cons rfl) : WN X B G O (.Call (.Name "sorted" p) [.Call (.Name "set" p2) [a] [] q] [] pos) Φ := fun F σ H S Q k =>
  sem (pe_sortedSetI (C.gl _ hg).1 (by rw [C.mg]; exact hm) (C.gl _ hg2).1 (by rw [C.mg]; exact hm2) pe_sem C.calm (sa _ _)) (ha F σ H S _ fun v F1 H1 d O1 S1 e1 r1 p1 => by
    obtain ⟨rfl, rfl⟩ := p1
    obtain ⟨l, vs, rfl, rs, hq⟩ := itemsL_ok S1 r1 it
    rw [reps_ints rs] at hq
    refine ⟨l, ns, rfl, hq, h64, fun ms p h1 h2 hp => k p (ms.map D.int) F1 _ _ (S1.allocOwn hp (ov := .lst (ms.map D.int)) ⟨ms.map V.int, upd_same, ints_reps _⟩) e1 (h ms h1 h2)⟩)
end
end Dl
set_option Elab.async false
set_option linter.all false
set_option maxRecDepth 100000
set_option maxHeartbeats 2000000
namespace Dl
open PySem PySem.Spec PyProof.Rows L2
theorem cut_to {xs : List D} {j : Nat} : cutD xs none (some (j : Int)) = xs.take j := by
  unfold cutD
  have e : HT.sIx xs.length 0 none = 0 := rfl
  rw [e, HT.sIx_nat, List.drop_zero, Nat.sub_zero]
  by_cases h : j ≤ xs.length
  · rw [Nat.min_eq_left h]
  · rw [Nat.min_eq_right (by omega), List.take_of_length_le (Nat.le_refl _), List.take_of_length_le (by omega)]
section
variable {M : Mach} {X : Cx} {N : List Str} {sc : Scope} {vb lb gb : Str → Bool} {B : Bs} {G : Sl} {O : Own} {e ke : Expr} {es : List Expr} {pos p kpos : Pos} {ds : List D} {v dk : D} {x nm : Str} {k : Nat} {sp : DSp}
theorem pv_callK (C : Cxt M X N sc vb lb gb) (f : GFnK M x [nm] k sp) (hr : Room k X.A) (hg : gb x = true) (ha : PAv X B G O (e :: es) ds) (hk : PEv X B G O ke dk) (h : ∀ Φ Ψ, Φ v O → sp (ds ++ [dk]) O Φ Ψ)
    (hall : (backToKw pos (keywordEach [⟨some nm, ke, kpos⟩] X.env)).all (·.1.isSome) = true := by rfl) (hks : (backToKw pos (keywordEach [⟨some nm, ke, kpos⟩] X.env)).filterMap (·.1) = [nm] := by rfl)
    (he : starEach (e :: es) X.env = (false, eval e X.env) :: starEach es X.env := by exact star_cons rfl) (hpl : ((backTo pos (starEach (e :: es) X.env)).any (·.1) || (backToKw pos (keywordEach [⟨some nm, ke, kpos⟩] X.env)).any (·.1.isNone)) = false := by rfl) : PEv X B G O (.Call (.Name x p) (e :: es) [⟨some nm, ke, kpos⟩] pos) v :=
  we_callK C f hr takes_no hg (wa_pv ha (wk_cons (we_pv hk (wk_nil ⟨rfl, O, [], by rw [List.append_nil], h _ _ ⟨rfl, List.append_nil O⟩⟩)))) hall hks he hpl
end
end Dl
set_option Elab.async false
set_option linter.all false
set_option maxRecDepth 100000
set_option maxHeartbeats 2000000
namespace Dl
open PySem PySem.Spec PyProof.Rows L2 L2.DX
abbrev entK (q : Int × Int) : Key × V := (Sum.inl q.1, V.int q.2)
def adr : Value → Addr
  | .ref a => a
  | _ => 0
abbrev entD (q : Int × Int) : Key × D := (Sum.inl q.1, D.int q.2)
def getI (tb : List (Int × Int)) (k : Int) : Option Int := (tb.find? fun p => decide (p.1 = k)).map (·.2)
def putI (tb : List (Int × Int)) (k v : Int) : List (Int × Int) := if (tb.any fun p => decide (p.1 = k)) = true then tb.map (fun p => if p.1 = k then (p.1, v) else p) else tb ++ [(k, v)]
theorem preps_ints {K : PySem.W.Frag} {F : Hp} : ∀ {tb : List (Int × Int)} {ks : List (Key × V)}, PReps K F ks (tb.map entD) → ks = tb.map entK
  | [], _, .nil => rfl
  | q :: tb, _, .cons h r => by
    rename_i p ps
    obtain ⟨e1, e2⟩ := h
    obtain ⟨p1, p2⟩ := p
    have e3 : p1 = Sum.inl q.1 := e1
    have e4 : Rep K F p2 (.int q.2) := e2
    cases e4
    rw [List.map_cons, preps_ints r, e3]
theorem ints_preps {K : PySem.W.Frag} {F : Hp} : ∀ tb : List (Int × Int), PReps K F (tb.map entK) (tb.map entD)
  | [] => .nil
  | q :: tb => .cons ⟨rfl, .int q.2⟩ (ints_preps tb)
theorem key_inj (a b : Int) : (decide ((Sum.inl a : Key) = Sum.inl b)) = decide (a = b) := decide_eq_decide.mpr ⟨fun z => Sum.inl.inj z, fun z => by rw [z]⟩
theorem valV_getI (k : Int) : ∀ tb : List (Int × Int), valV (tb.map entK) (Sum.inl k : Key) = (getI tb k).map V.int
  | [] => rfl
  | q :: tb => by
    have ih := valV_getI k tb
    unfold valV getI at ih ⊢
    rw [List.map_cons, List.find?_cons, List.find?_cons]
    show Option.map _ (match decide ((Sum.inl q.1 : Key) = Sum.inl k) with | true => _ | false => _) = _
    rw [key_inj]
    cases decide (q.1 = k) with
    | true => rfl
    | false => exact ih
theorem any_key (k : Int) : ∀ tb : List (Int × Int), ((tb.map entK).any fun p => decide (p.1 = (Sum.inl k : Key))) = tb.any fun p => decide (p.1 = k)
  | [] => rfl
  | q :: tb => by
    rw [List.map_cons, List.any_cons, List.any_cons, any_key k tb]
    show (decide ((Sum.inl q.1 : Key) = Sum.inl k) || _) = _
    rw [key_inj]
theorem putK_putI (tb : List (Int × Int)) (k v : Int) : putK (tb.map entK) (Sum.inl k : Key) (V.int v) = (putI tb k v).map entK := by
  unfold putK putI
  rw [any_key]
  split
  · rw [List.map_map, List.map_map]
    refine List.map_congr_left fun q _ => ?_
    show (if (Sum.inl q.1 : Key) = Sum.inl k then _ else _) = entK (if q.1 = k then _ else _)
    by_cases c : q.1 = k
    · rw [if_pos c, if_pos (by rw [c])]
    · rw [if_neg c, if_neg (fun z => c (Sum.inl.inj z))]
  · rw [List.map_append]
    rfl
section
variable {M : Mach} {X : Cx} {N : List Str} {sc : Scope} {vb lb gb : Str → Bool} {B : Bs} {G : Sl} {O : Own} {a e f o i value : Expr} {pos pos' p p2 apos cpos : Pos} {d1 : D} {E : EndsD}
theorem we_dnew {Φ : D → Own → Prop} (h : ∀ q, Φ (.obj q) ((q, .dic ([].map entD)) :: O)) : WE X B G O (.Dict [] [] pos) Φ := fun F σ H S Q k =>
  sem pe_dnewK fun q hq => k _ F _ _ _ (S.allocOwn hq (ov := .dic ([].map entD)) ⟨[], upd_same, .nil⟩) (Same.refl _) (.obj q) (h q)
theorem own_dic {F H : Hp} {σ : L2.St} {q : Addr} {tb : List (Int × Int)} (S : Sat X.K B G O F σ H) (h : (q, OV.dic (tb.map entD)) ∈ O) : H q = some (.dK (tb.map entK)) := by
  obtain ⟨_, ks, h1, h2⟩ := S.own _ h
  rw [preps_ints h2] at h1
  exact h1
theorem pv_dgetI {q : Addr} {tb : List (Int × Int)} {k z : Int} (C : Cxt M X N sc vb lb gb) (ho : PEv X B G O o (.obj q)) (he : PEv X B G O e (.int k)) (hf : PEv X B G O f (.int z)) (hm : (q, OV.dic (tb.map entD)) ∈ O)
    (m : M2 X o "get" apos e f cpos := by exact ⟨rfl, rfl, rfl, rfl⟩) : PEv X B G O (.Call (.Attribute o "get" apos) [e, f] [] cpos) (.int ((getI tb k).getD z)) := fun F σ H S Q kk =>
  sem (pe_dget2 (Nat.lt_of_le_of_lt (by omega) C.un) pe_sem pe_sem pe_sem m) (ho F σ H S _ fun v F1 H1 d O1 S1 e1 r1 p1 => by
    obtain ⟨rfl, rfl⟩ := p1
    cases r1
    refine ⟨q, rfl, .inl ⟨_, .inl (own_dic S1 hm)⟩, he F1 σ H1 S1 _ fun v F2 H2 d O2 S2 e2 r2 p2 => ?_⟩
    obtain ⟨rfl, rfl⟩ := p2
    cases r2
    refine hf F2 σ H2 S2 _ fun v F3 H3 d O3 S3 e3 r3 p3 => ?_
    obtain ⟨rfl, rfl⟩ := p3
    cases r3
    refine ⟨_, DGet.k (k := Sum.inl k) (own_dic S3 hm), kk _ F3 H3 (.int ((getI tb k).getD z)) O3 S3 ((e1.trans e2).trans e3) ?_ ⟨rfl, rfl⟩⟩
    rw [valV_getI]
    cases getI tb k with
    | none => exact .int z
    | some y => exact .int y)
theorem ws_dputI (C : Cxt M X N sc vb lb gb) (h : WE X B G O value fun d O1 => ∃ (v k : Int) (q : Addr) (tb : List (Int × Int)) (O2 : Own), d = .int v ∧ PEv X B G O1 o (.obj q) ∧ PEv X B G O1 i (.int k) ∧ (q, OV.dic (tb.map entD)) ∈ O1 ∧ tb.length < 1000000 ∧ OSet O1 q (.dic ((putI tb k v).map entD)) O2 ∧ E.nx G O2)
    (hs : swapsWith value (some (.Subscript o i pos')) pos.line X.env = pure false := by rfl) : WS X B G O (.Assign [.Subscript o i pos'] value pos) E := fun F σ H S D' kk =>
  semS (ps_dput (Nat.lt_of_le_of_lt (by omega) C.un) pe_sem pe_sem pe_sem hs) (h F σ H S _ fun v F1 H1 d O1 S1 e1 r1 p1 => by
    obtain ⟨n, k, q, tb, O2, rfl, ho, hi, hm, hl, hs, q2⟩ := p1
    cases r1
    refine ho F1 σ H1 S1 _ fun v F2 H2 d O2' S2 e2 r2 p2 => ?_
    obtain ⟨rfl, rfl⟩ := p2
    cases r2
    refine hi F2 σ H2 S2 _ fun v F3 H3 d O3 S3 e3 r3 p3 => ?_
    obtain ⟨rfl, rfl⟩ := p3
    cases r3
    have hd := own_dic S3 hm
    refine ⟨q, _, rfl, DPut.k (k := Sum.inl k) hd (by rw [List.length_map]; exact Nat.lt_of_lt_of_le hl (len_line (Nat.le_refl _))), ?_⟩
    rw [putK_putI]
    exact kk.nx G O2 F3 σ _ (S3.mut hs ⟨_, upd_same, ints_preps _⟩) ((e1.trans e2).trans e3) q2)
theorem reps_mk {α : Type} {K : PySem.W.Frag} {F : Hp} (f : α → V) (g : α → D) : ∀ xs : List α, (∀ x ∈ xs, Rep K F (f x) (g x)) → Reps K F (xs.map f) (xs.map g)
  | [], _ => .nil
  | x :: xs, h => .cons (h x List.mem_cons_self) (reps_mk f g xs fun y hy => h y (List.mem_cons_of_mem _ hy))
abbrev dPr (q : Int × Int) : D := .tup [.int q.1, .int q.2]
end
end Dl
set_option Elab.async false
set_option linter.all false
set_option maxRecDepth 100000
set_option maxHeartbeats 2000000
namespace Dl
open PySem PySem.Spec PyProof.Rows L2 L2.DX
theorem addrs_of : ∀ {α : Type} {zs : List (Addr × α)} {its : List Value}, Vals (zs.map fun z => V.ref z.1) its → its = zs.map fun z => Value.ref z.1
  | _, [], _, .nil => rfl
  | _, z :: zs, _, .cons r t => by rw [List.map_cons, addrs_of t, show _ = Value.ref z.1 from r]
theorem vals_addrs {α : Type} : ∀ zs : List (Addr × α), Vals (zs.map fun z => V.ref z.1) (zs.map fun z => Value.ref z.1)
  | [] => .nil
  | _ :: zs => .cons rfl (vals_addrs zs)
abbrev K3 := Int × Int × Int
def lex3 (p q : K3) : Bool := if p.1 = q.1 then SrtO.lexB p.2 q.2 else decide (p.1 < q.1)
theorem lex3_iff {p q : K3} : lex3 p q = true ↔ p.1 < q.1 ∨ (p.1 = q.1 ∧ (p.2.1 < q.2.1 ∨ (p.2.1 = q.2.1 ∧ p.2.2 < q.2.2))) := by
  unfold lex3
  by_cases c : p.1 = q.1
  · rw [if_pos c, SrtO.lexB_iff]
    constructor
    · exact fun h => .inr ⟨c, h⟩
    · rintro (h | h)
      · omega
      · exact h.2
  · rw [if_neg c, decide_eq_true_iff]
    constructor
    · exact fun h => .inl h
    · rintro (h | h)
      · exact h
      · exact absurd h.1 c
def IsR3 (h : Heap) (v : Value) (k : K3) : Prop := ∃ a o t1 t2 t3 r n, v = .ref a ∧ h.get? a = some o ∧ o.cls = .type "tuple" ∧ o.data = .seq #[.int k.1 t1, .int k.2.1 t2, .int k.2.2 t3, r] n
theorem IsR3.keeps {h h' : Heap} {v : Value} {k : K3} (x : IsR3 h v k) (kp : ∀ b o, h.get? b = some o → o.cls = .type "tuple" → h'.get? b = some o) : IsR3 h' v k := by
  obtain ⟨a, o, t1, t2, t3, r, n, e, ho, hc, hd⟩ := x
  exact ⟨a, o, t1, t2, t3, r, n, e, kp _ _ ho hc, hc, hd⟩
theorem nodup_key {α β : Type} {f : α → β} : ∀ {l : List α}, (l.map f).Nodup → ∀ x ∈ l, ∀ y ∈ l, f x = f y → x = y
  | [], _, x, hx, _, _, _ => (List.not_mem_nil hx).elim
  | a :: l, h, x, hx, y, hy, e => by
    obtain ⟨h1, h2⟩ := List.nodup_cons.mp h
    rcases List.mem_cons.mp hx with ex | kx <;> rcases List.mem_cons.mp hy with ey | ky
    · rw [ex, ey]
    · exact (h1 (by rw [← ex, e]; exact List.mem_map_of_mem ky)).elim
    · exact (h1 (by rw [← ey, ← e]; exact List.mem_map_of_mem kx)).elim
    · exact nodup_key h2 x kx y ky e
section
variable {M : Mach} {X : Cx} {N : List Str} {sc : Scope} {vb lb gb : Str → Bool} {B : Bs} {G : Sl} {O : Own} {a : Expr} {pos p : Pos} {d1 : D}
theorem perm_lift2 {α β : Type} (f : α → β) : ∀ {l m : List β}, l.Perm m → ∀ {bs : List α}, m = bs.map f → ∃ as : List α, as.Perm bs ∧ l = as.map f := by
  intro l m h
  induction h with
  | nil => intro bs e; exact ⟨bs, List.Perm.refl _, e⟩
  | cons x _ ih =>
    intro bs e
    cases bs with
    | nil => cases e
    | cons b bs =>
      rw [List.map_cons] at e
      injection e with e1 e2
      obtain ⟨as, p, q⟩ := ih e2
      exact ⟨b :: as, p.cons b, by rw [List.map_cons, q, e1]⟩
  | swap x y l =>
    intro bs e
    match bs, e with
    | b :: c :: bs, e =>
      rw [List.map_cons, List.map_cons] at e
      injection e with e1 e2
      injection e2 with e2 e3
      exact ⟨c :: b :: bs, List.Perm.swap b c bs, by rw [List.map_cons, List.map_cons, e1, e2, e3]⟩
    | [], e => cases e
    | [_], e => injection e with _ e; cases e
  | trans _ _ ih1 ih2 =>
    intro bs e
    obtain ⟨as, p, q⟩ := ih2 e
    obtain ⟨cs, p2, q2⟩ := ih1 q
    exact ⟨cs, p2.trans p, q2⟩
end
end Dl
set_option Elab.async false
set_option linter.all false
set_option maxRecDepth 100000
set_option maxHeartbeats 2000000
namespace Dl
open PySem PySem.Spec PyProof.Rows L2 L2.DX
section
variable {M : Mach} {X : Cx} {N : List Str} {sc : Scope} {vb lb gb : Str → Bool} {B : Bs} {G : Sl} {O : Own} {a : Expr} {pos p tpos : Pos} {d1 : D} {ds : List D}
theorem PNv.to {e : Expr} {xs ys : List D} (h : PNv X B G O e xs) (k : xs = ys) : PNv X B G O e ys := k ▸ h
end
theorem enumD_mapE {α : Type} (f : α → D) (xs : List α) : enumD (xs.map f) = (xs.mapIdx fun i x => (i, x)).map fun x => .tup [.int (x.1 : Int), f x.2] := by
  unfold enumD
  refine List.ext_getElem? fun j => ?_
  rw [List.getElem?_mapIdx, List.getElem?_map, List.getElem?_map, List.getElem?_mapIdx]
  cases xs[j]? <;> rfl
end Dl
set_option Elab.async false
set_option linter.all false
set_option maxRecDepth 100000
set_option maxHeartbeats 2000000
set_option Elab.async false
set_option linter.all false
set_option maxRecDepth 100000
set_option maxHeartbeats 2000000
namespace Hz
open PySem PySem.Spec PyProof.Rows L2 HotX L2H
/-- the words whose flags are true -/
def kept (ws : List Str) (gs : List Bool) : List Str := ((ws.zip gs).filter (·.2)).map (·.1)
end Hz
set_option Elab.async false
set_option linter.all false
set_option maxRecDepth 100000
set_option maxHeartbeats 2000000
set_option Elab.async false
set_option linter.all false
set_option maxRecDepth 100000
set_option maxHeartbeats 2000000
namespace Hz
open PySem PySem.Spec PyProof.Rows L2 HotX L2H Dl
abbrev Ext (H H' : Hp) : Prop := ∀ b o, H b = some o → H' b = some o
section
variable {X : Cx} {σ : L2.St} {H : Hp} {Q : VK} {D : Ends} {x : Str} {i : Nat} {e : Expr} {es : List Expr} {rest : List Stmt} {pos pos' : Pos}
/-- arguments that leave the heap alone -/
abbrev ArgsAre (X : Cx) (σ : L2.St) (H : Hp) (es : List Expr) (vs : List V) : Prop := ∀ Q : List V → Hp → Prop, Q vs H → tSemA X es σ H Q
abbrev ExpIs (X : Cx) (σ : L2.St) (H : Hp) (e : Expr) (v : V) : Prop := ∀ Q : VK, Q v H → tSem X e σ H Q
theorem args_nil : ArgsAre X σ H [] [] := fun Q q => semA pa_nil q
theorem args_cons {v : V} {vs : List V} (h : ExpIs X σ H e v) (hs : ArgsAre X σ H es vs) (pl : Plain1 e := by exact star_cons rfl) : ArgsAre X σ H (e :: es) (v :: vs) := fun Q q => semA (pa_cons pe_sem pa_sem (pl es X.env)) (h _ (hs _ q))
end
end Hz
set_option Elab.async false
set_option linter.all false
set_option maxRecDepth 100000
set_option maxHeartbeats 2000000
set_option Elab.async false
set_option linter.all false
set_option maxRecDepth 100000
set_option maxHeartbeats 2000000
set_option Elab.async false
set_option linter.all false
set_option maxRecDepth 100000
set_option maxHeartbeats 2000000
namespace Hz
open PySem PySem.Spec PyProof.Rows L2 HotX L2H Dl LamX
/-- behind the making: one code more may be frozen, the table may be longer -/
structure Made (F H F1 H1 : Hp) (P c' : Addr) (q : Str) : Prop where
  sF : Same F F1
  sH : Same F1 H1
  tab : TabF F1 H1 P q
  keep : ∀ b o, b ≠ P → H b = some o → H1 b = some o
  new : ∀ b, F b = none → F1 b ≠ none → H b = none
  code : F1 c' = some (CodeO c' q)
end Hz
set_option Elab.async false
set_option linter.all false
set_option maxRecDepth 100000
set_option maxHeartbeats 2000000
namespace Hz
open PySem PySem.Spec PyProof.Rows L2 HotX L2H Dl LamX
/-- the context of the def that got the lambda -/
abbrev gotCx (X : Cx) (Ng : List Str) (x : Str) (sg : Scope) (g : Addr) (cdg : Value) (s : Shared) (H : Hp) : Cx := cxOf C8.CX0 X.prog X.w X.K X.mg X.base Ng x sg g cdg X.A X.stack s H C8.E0
/-- TT: what the def makes of the lambda's reading -/
def GivesN (X : Cx) (k : Nat) (Ng : List Str) (x : Str) (sg : Scope) (g : Addr) (cdg : Value) (bg : List Stmt) (a : Str) (q : Str) (TT : (XK → Hp → VK → Prop) → Hp → VK → Prop) : Prop :=
  ∀ (f c' : Addr) (s : Shared) (H : Hp) (Q : VK) (tl : XK → Hp → VK → Prop), Room k (gotCx X Ng x sg g cdg s H).A →
    (∀ (W : WX) (pn : List (Addr × Obj)) (xe : Value → Shared → Prop) (E : XK) (p1 p2 : Pos), L2N.Takes ((gotCx X Ng x sg g cdg s H).tr pn xe) W → (∀ cls d σ' H', E cls d H' → W cls d σ' H') →
      PE ((gotCx X Ng x sg g cdg s H).tr pn xe) (.Call (.Name a p1) [] [] p2) (fun σZ HZ Q => σZ[0]? = some (some (.ref f)) ∧ HZ c' = some (CodeO c' q) ∧ tl E HZ Q)) →
    H c' = some (CodeO c' q) → TT tl H Q → ∃ t, PSs (gotCx X Ng x sg g cdg s H).nox bg t ∧ t { nx := fun _ H' => Q .non H', rt := Q } (L2.start Ng [.ref f]) H
end Hz
set_option Elab.async false
set_option linter.all false
set_option maxRecDepth 100000
set_option maxHeartbeats 2000000
namespace Dl
open PySem PySem.Spec PyProof.Rows L2 LamX
section
variable {K : PySem.W.Frag} {B : Bs} {G : Sl} {O O' : Own} {F H : Hp} {σ : L2.St}
theorem nodup_ov : ∀ {O : Own} {P : Addr} {a b : OV}, (keys O).Nodup → (P, a) ∈ O → (P, b) ∈ O → a = b
  | [], _, _, _, _, h, _ => (List.not_mem_nil h).elim
  | x :: r, P, a, b, nd, h1, h2 => by
    obtain ⟨n1, n2⟩ := List.nodup_cons.mp (show (x.1 :: keys r).Nodup from nd)
    rcases List.mem_cons.mp h1 with e1 | m1 <;> rcases List.mem_cons.mp h2 with e2 | m2
    · rw [← e1] at e2
      cases e2
      rfl
    · rw [← e1] at n1
      exact (n1 (mem_keys (p := (P, b)) m2)).elim
    · rw [← e2] at n1
      exact (n1 (mem_keys (p := (P, a)) m1)).elim
    · exact nodup_ov n2 m1 m2
/-- a lambda is made -/
theorem Sat.made (S : Sat K B G O F σ H) {F1 H1 : Hp} {P c' : Addr} {q : Str} (hm : (P, OV.tab q) ∈ O) (md : Hz.Made F H F1 H1 P c' q) : Sat K B G O F1 σ H1 := by
  have hP : ∃ o, H P = some o := S.lt hm
  have nF : ∀ {a : Addr} {o : HO}, F a = none → H a = some o → F1 a = none := fun {a o} e1 e2 => by
    cases z : F1 a with
    | none => rfl
    | some u =>
      have w := md.new a e1 (by rw [z]; simp)
      rw [e2] at w
      cases w
  refine ⟨S.len, fun i d e => ?_, md.sH, S.nd, fun p hp => ?_, S.bF.trans md.sF, fun a u e1 e2 e3 => ?_⟩
  · obtain ⟨v, h1, h2⟩ := S.slot i d e
    exact ⟨v, h1, h2.mono md.sF⟩
  · obtain ⟨o, ho⟩ := S.lt hp
    refine ⟨nF (S.own p hp).1 ho, ?_⟩
    by_cases hb : p.1 = P
    · obtain ⟨a, ov⟩ := p
      dsimp only at hb
      subst hb
      rw [nodup_ov S.nd hp hm]
      exact md.tab
    · exact (S.own p hp).2.mono md.sF ((md.keep _ _ hb ho).trans ho.symm)
  · obtain ⟨h1, h2, h3⟩ := S.bH a u e1 e2 e3
    exact ⟨md.keep _ _ (fun z => h3 (z ▸ mem_keys hm)) h1, nF h2 h1, h3⟩
/-- more objects of which nothing is said -/
theorem Sat.ext (S : Sat K B G O F σ H) {H' : Hp} (e : Hz.Ext H H') : Sat K B G O F σ H' :=
  ⟨S.len, S.slot, fun b o z => e _ _ (S.ex b o z), S.nd, fun p hp => by
    obtain ⟨o, ho⟩ := S.lt hp
    exact ⟨(S.own p hp).1, (S.own p hp).2.mono (Same.refl _) ((e _ _ ho).trans ho.symm)⟩, S.bF, fun a u e1 e2 e3 => by
    obtain ⟨h1, h2, h3⟩ := S.bH a u e1 e2 e3
    exact ⟨e _ _ h1, h2, h3⟩⟩
end
/-- what a lambda's body is walked with -/
structure LamB (M : Mach) (X : Cx) (B : Bs) (N vn gl : List Str) (sc : Scope) (k : Nat) (Ψ : Xk) : Prop where
  C : Cxt M X N sc (fun x => vn.contains x) (fun _ => false) (fun x => gl.contains x)
  r : Room k X.A
  tk : L2N.Takes X (wD X.K B Ψ)
def lamSc (sc : Scope) (vn gl : List Str) : Bool := vn.all (fun x => visB sc x) && gl.all fun x => glB sc x
/-- the def x, called with a lambda: TT what it makes of the lambda's body -/
def GDoor (M : Mach) (x a : Str) (Ng : List Str) (k : Nat) (TT : (XK → Hp → VK → Prop) → Hp → VK → Prop) : Prop :=
  ∃ (g : Addr) (st : Stmt) (fd : FuncData), M.mg x = some (.ref g) ∧ Fun M.K x x st g fd ∧ Binds M.K fd [a] [] ∧ FnScope Ng [a] (defScope st) ∧ Ng[0]? = some a ∧ Vis (defScope st) a ∧ (a == ("__debug__" : Str)) = false ∧ (a == ("__classdict__" : Str)) = false ∧
    ∀ (X : Cx) (cdv : Value) (q : Str), machOf X = M → Hz.GivesN X (k + 1) Ng x (defScope st) g cdv (defBody st) a q TT
theorem GDoor.mono {M : Mach} {x a : Str} {Ng : List Str} {j k : Nat} {TT : (XK → Hp → VK → Prop) → Hp → VK → Prop} (h : GDoor M x a Ng j TT) (l : j ≤ k) : GDoor M x a Ng k TT := by
  obtain ⟨g, st, fd, h1, h2, h3, h4, h5, h6, h7, h8, h9⟩ := h
  exact ⟨g, st, fd, h1, h2, h3, h4, h5, h6, h7, h8, fun X cdv q e f c' s H Q tl hr => h9 X cdv q e f c' s H Q tl (hr.mono (by omega))⟩
end Dl
set_option Elab.async false
set_option linter.all false
set_option maxRecDepth 100000
set_option maxHeartbeats 2000000
namespace Dl
open PySem PySem.Spec PyProof.Rows L2
/-- an own exception class over ValueError, without __init__ -/
structure ExcF (M : Mach) (c : Addr) : Prop where
  q : PySem.W.excIn M.K c He.veBase "ValueError.__new__" = true
  k : PySem.W.keepIn M.K (.ref c) = true
  b : PySem.W.subIn M.K (.ref c) (.type "BaseException") = some true
  t : PySem.W.typeIn M.K (.ref c) = some (.type "type")
def GExc (M : Mach) (x : Str) : Prop := ∃ c, M.mg x = some (.ref c) ∧ ExcF M c
section
variable {M : Mach} {X : Cx} {N : List Str} {sc : Scope} {vb lb gb : Str → Bool} {B : Bs} {G : Sl} {O : Own} {e a b elt : Expr} {es : List Expr} {pos p p2 p3 : Pos} {d d1 d2 : D} {ds : List D} {E : EndsD} {Ψ : Xk} {x m : Str} {j : Nat}
theorem swapC {env : Env} {x y : Str} {a b : Expr} {px py pt pt2 : Pos} {kt k2} (hst : ([a, b].any fun | .Starred .. => true | _ => false) = false) (hf : [a, b].all (foldedForSure 8) = true) : swappedStores [.Tuple [.Name x px, .Name y py] kt pt] (.Tuple [a, b] k2 pt2) env = pure none := by
  unfold swappedStores
  simp only [hf, hst]
  repeat' split
  all_goals first | rfl | (exfalso; simp_all)
theorem ws_parC {x y : Str} {px py pt pt2 : Pos} {kt k2} {vs : Nat → Prop} (h : WE X B G O (.Tuple [a, b] k2 pt2) fun d O' => WG X B G O' (.Tuple [.Name x px, .Name y py] kt pt) vs d E.nx) (hf : [a, b].all (foldedForSure 8) = true := by rfl) (hst : ([a, b].any fun | .Starred .. => true | _ => false) = false := by rfl)
    (hs : swapsWithSole [.Tuple [.Name x px, .Name y py] kt pt] (.Tuple [a, b] k2 pt2) pos.line X.env = pure false := by rfl) : WS X B G O (.Assign [.Tuple [.Name x px, .Name y py] kt pt] (.Tuple [a, b] k2 pt2) pos) E := ws_asg h hs (swapC hst hf) rfl
theorem wi_range2 {tg : Expr} {Φ : List D → Own → Own → Prop} (C : Cxt M X N sc vb lb gb) (hm : M.mg "range" = none) (hg : gb "range" = true)
    (h : WE X B G O a fun d O1 => WE X B G O1 b fun d2 O2 => ∃ i j : Int, d = .int i ∧ d2 = .int j ∧ (-(2 ^ 62) ≤ i ∧ i < 2 ^ 62 ∧ -(2 ^ 62) ≤ j ∧ j < 2 ^ 62) ∧ Φ ((List.range (j - i).toNat).map fun k => D.int (i + (k : Nat))) [] O2)
    (sa : starEach [a, b] X.env = (false, eval a X.env) :: starEach [b] X.env) (sb : Plain1 b := by exact fun _ _ => star_cons rfl) :
    WI X B G O tg (.Call (.Name "range" p) [a, b] [] pos) Φ := fun F σ H S R k =>
  semI (pi_range2 (C.gl _ hg).1 (by rw [C.mg]; exact hm) pa_sem (by rw [sa, sb]; rfl) (by rw [sb]; rfl)) ((wa_cons (h.mono fun d O1 z => wa_cons (z.mono fun d2 O2 w => wa_nil (Φ := fun ds O' => ∃ i j : Int, (d :: d2 :: ds) = [.int i, .int j] ∧ (-(2 ^ 62) ≤ i ∧ i < 2 ^ 62 ∧ -(2 ^ 62) ≤ j ∧ j < 2 ^ 62) ∧ Φ ((List.range (j - i).toNat).map fun k => D.int (i + (k : Nat))) [] O') (by
    obtain ⟨i, j, rfl, rfl, q⟩ := w
    exact ⟨i, j, rfl, q⟩)) (sb _ _)) sa : WA X B G O [a, b] fun ds O' => ∃ i j : Int, ds = [.int i, .int j] ∧ (-(2 ^ 62) ≤ i ∧ i < 2 ^ 62 ∧ -(2 ^ 62) ≤ j ∧ j < 2 ^ 62) ∧ Φ ((List.range (j - i).toNat).map fun k => D.int (i + (k : Nat))) [] O') F σ H S _ fun vs F1 H1 ds O1 S1 e1 r1 p1 => by
    obtain ⟨i, j, rfl, q1, q3⟩ := p1
    obtain ⟨v, w, rfl, rv, rw'⟩ := reps2 r1
    cases rv
    cases rw'
    exact ⟨i, j, rfl, q1, k _ F1 H1 _ [] O1 S1 e1 jok_range q3⟩)
/-- if a op b op c -/
theorem ptv_chain {c : Expr} {op op' : CmpOp} {g g' : Int → Int → Bool} {i j l : Int} (ho : OpR X (compareOp op) (rI0 fun i j => .bl (g i j))) (ho' : OpR X (compareOp op') (rI0 fun i j => .bl (g' i j))) (ha : PEv X B G O a (.int i)) (hb : PEv X B G O b (.int j)) (hc : PEv X B G O c (.int l)) (hm : lastMarks [op, op'] [b, c] = false := by with_unfolding_all rfl) :
    PTv X B G O (.Compare a [op, op'] [b, c] pos) (g i j && g' j l) := fun F σ H S Q k => semT (pt_chain ho ho' pe_sem pe_sem pe_sem hm)
  (ha F σ H S _ fun v F1 H1 d1 O1 S1 e1 r1 p1 => by
    obtain ⟨rfl, rfl⟩ := p1
    cases r1
    refine hb F1 σ H1 S1 _ fun v F2 H2 d2 O2 S2 e2 r2 p2 => ?_
    obtain ⟨rfl, rfl⟩ := p2
    cases r2
    refine ⟨i, j, rfl, rfl, g i j, rfl, ?_⟩
    cases hg : g i j with
    | false => exact ⟨false, rfl, k _ F2 H2 O2 S2 (e1.trans e2) ⟨by rw [hg]; rfl, rfl⟩⟩
    | true =>
      refine hc F2 σ H2 S2 _ fun v F3 H3 d3 O3 S3 e3 r3 p3 => ?_
      obtain ⟨rfl, rfl⟩ := p3
      cases r3
      exact ⟨j, l, rfl, rfl, _, rfl, k _ F3 H3 O3 S3 ((e1.trans e2).trans e3) ⟨by rw [hg]; rfl, rfl⟩⟩)
theorem LcTurn.mono {scope : Scope} {vs : List Nat} {tg : Expr} {ifs : List Expr} {Yes Yes' : D → Own → Prop} {No No' : Own → Prop} (h : LcTurn M X N sc scope G vs O tg ifs elt d Yes No) (k1 : ∀ y O', Yes y O' → Yes' y O') (k2 : ∀ O', No O' → No' O') : LcTurn M X N sc scope G vs O tg ifs elt d Yes' No' :=
  fun X' B' b F σ H v S r Q k => h X' B' b F σ H v S r Q fun G2 O2 F2 σ2 H2 S2 e2 t2 p2 => k G2 O2 F2 σ2 H2 S2 e2 t2 fun X2 b2 F3 σ3 H3 S3 Q3 k3 => p2 X2 b2 F3 σ3 H3 S3 Q3 fun bb F4 H4 O4 S4 e4 p4 => k3 bb F4 H4 O4 S4 e4 (by
    cases bb with
    | true =>
      rw [if_pos rfl] at p4 ⊢
      exact fun X3 b3 => (p4 X3 b3).mono k1
    | false =>
      rw [if_neg Bool.false_ne_true] at p4 ⊢
      exact k2 _ p4)
end
end Dl
set_option Elab.async false
set_option linter.all false
set_option maxRecDepth 100000
set_option maxHeartbeats 2000000
namespace Dl
open PySem PySem.Spec PyProof.Rows L2 LamX
section
variable {M : Mach} {X : Cx} {N : List Str} {sc : Scope} {vb lb gb : Str → Bool} {B : Bs} {G : Sl} {O : Own} {e a b : Expr} {es : List Expr} {pos p : Pos} {x : Str} {k : Nat} {c P : Addr} {params : Arguments} {body : Expr} {scope : Scope}
theorem we_maxL {Φ : D → Own → Prop} (C : Cxt M X N sc vb lb gb) (hm : M.mg "max" = none) (hg : gb "max" = true) (h : WE X B G O a fun d O1 => ∃ ns : List Int, ItemsL O1 d (ns.map D.int) ∧ 0 < ns.length ∧ ∀ m, m ∈ ns → (∀ y ∈ ns, y ≤ m) → Φ (.int m) O1) (sa : Plain1 a := by exact fun _ _ => star_cons rfl) : WE X B G O (.Call (.Name "max" p) [a] [] pos) Φ :=
  we_callB (R := fun xs O Φ => ∃ (d : D) (ns : List Int), xs = [d] ∧ ItemsL O d (ns.map D.int) ∧ 0 < ns.length ∧ ∀ m, m ∈ ns → (∀ y ∈ ns, y ≤ m) → Φ (.int m) O) C (cr_max C.calm) (fun B G O F σ H xs ds Φ S r h Q k => by
    obtain ⟨d, ns, rfl, it, h0, q⟩ := h
    obtain ⟨v, rfl, rv⟩ := reps1 r
    obtain ⟨a, vs, rfl, rs, hq⟩ := itemsL_ok S rv it
    rw [reps_ints rs] at hq
    exact ⟨a, ns, rfl, hq, h0, fun m h1 h2 => k _ F H _ O S (Same.refl _) (.int _) (q m h1 h2)⟩) hm hg (by decide +kernel) (wa_cons (h.mono fun d O1 z => wa_nil (by
      obtain ⟨ns, it, h0, q⟩ := z
      exact ⟨d, ns, rfl, it, h0, q⟩)) (sa _ _)) (he := sa _ _)
theorem we_minL {Φ : D → Own → Prop} (C : Cxt M X N sc vb lb gb) (hm : M.mg "min" = none) (hg : gb "min" = true) (h : WE X B G O a fun d O1 => ∃ ns : List Int, ItemsL O1 d (ns.map D.int) ∧ 0 < ns.length ∧ ∀ m, m ∈ ns → (∀ y ∈ ns, m ≤ y) → Φ (.int m) O1) (sa : Plain1 a := by exact fun _ _ => star_cons rfl) : WE X B G O (.Call (.Name "min" p) [a] [] pos) Φ :=
  we_callB (R := fun xs O Φ => ∃ (d : D) (ns : List Int), xs = [d] ∧ ItemsL O d (ns.map D.int) ∧ 0 < ns.length ∧ ∀ m, m ∈ ns → (∀ y ∈ ns, m ≤ y) → Φ (.int m) O) C (cr_min C.calm) (fun B G O F σ H xs ds Φ S r h Q k => by
    obtain ⟨d, ns, rfl, it, h0, q⟩ := h
    obtain ⟨v, rfl, rv⟩ := reps1 r
    obtain ⟨a, vs, rfl, rs, hq⟩ := itemsL_ok S rv it
    rw [reps_ints rs] at hq
    exact ⟨a, ns, rfl, hq, h0, fun m h1 h2 => k _ F H _ O S (Same.refl _) (.int _) (q m h1 h2)⟩) hm hg (by decide +kernel) (wa_cons (h.mono fun d O1 z => wa_nil (by
      obtain ⟨ns, it, h0, q⟩ := z
      exact ⟨d, ns, rfl, it, h0, q⟩)) (sa _ _)) (he := sa _ _)
end
end Dl
set_option Elab.async false
set_option linter.all false
set_option maxRecDepth 100000
set_option maxHeartbeats 2000000
namespace Dl
open PySem PySem.Spec PyProof.Rows L2
section
variable {M : Mach} {X : Cx} {N : List Str} {sc : Scope} {vb lb gb : Str → Bool} {B : Bs} {G : Sl} {O : Own} {a : Expr} {pos p : Pos}
theorem pv_intB {b : Bool} (C : Cxt M X N sc vb lb gb) (ha : PEv X B G O a (.bl b)) (hm : M.mg "int" = none) (hg : gb "int" = true) (sa : Plain1 a := by exact fun _ _ => star_cons rfl) : PEv X B G O (.Call (.Name "int" p) [a] [] pos) (.int (if b then 1 else 0)) :=
  we_callTy (R := fun xs O Φ => ∃ b, xs = [.bl b] ∧ Φ (.int (if b then 1 else 0)) O) C call_int1 (fun B G O F σ H xs ds Φ S r h Q k => by
    obtain ⟨i, rfl, q⟩ := h
    obtain ⟨v, rfl, rv⟩ := reps1 r
    cases rv
    exact .inr ⟨i, rfl, k _ F H _ O S (Same.refl _) (.int _) q⟩) hm hg (by decide +kernel) (wa_cons (we_pv ha (wa_nil ⟨b, rfl, rfl, rfl⟩)) (sa _ _)) (he := sa _ _)
end
end Dl
set_option Elab.async false
set_option linter.all false
set_option maxRecDepth 100000
set_option maxHeartbeats 2000000
namespace Hz
open PySem PySem.Spec PyProof.Rows L2 HotX L2H Dl
/-- the class at B takes its __init__ from ValueError -/
structure VeB (K : PySem.W.Frag) (B : Addr) : Prop where
  ga : PySem.W.specialIn K (.ref B) "__getattribute__" = some (some (.builtin "type.__getattribute__"))
  rd : PySem.W.readsIn K B (.type "type") = true
  it : PySem.W.findCls K (.ref B) (.type "type") "__init__" = some (.val (.builtin "ValueError.__init__"))
section
variable {X : Cx} {o e : Expr} {es : List Expr} {to te : TE} {ta : TA} {f x : Str} {p p' p1 p2 pos : Pos} {B : Addr}
/-- Base.__init__(self, ..), Base an own class -/
theorem pe_clsinit {pl : Sem Bool} (T : VeB X.K B) (hg : Gl X x) (hm : X.mg x = some (.ref B)) (ha : PA X (e :: es) ta) (hdb : (x == ("__debug__" : Str)) = false)
    (hc : eval (.Call (.Attribute (.Name x p1) "__init__" p2) (e :: es) [] pos) X.env = (do
      let ov ← eval (.Name x p1) X.env
      standAt p2.atName
      let (f, first) ← holding [ov] (getMethod ov "__init__" pl)
      callWith pos f first (backTo pos (starEach (e :: es) X.env)) (backToKw pos (keywordEach [] X.env))))
    (he : starEach (e :: es) X.env = (false, eval e X.env) :: starEach es X.env) (hpl : (backTo pos (starEach es X.env)).any (·.1) = false) :
    PE X (.Call (.Attribute (.Name x p1) "__init__" p2) (e :: es) [] pos) (tVeI X.K ta) := by
  refine ⟨fun pins s σ H Q I h => ?_⟩
  refine PySem.W.methodCall_KW (ld_glob I hg hm ?_ hdb) hc
  refine PySem.W.method_cls I.kIn T.ga (PySem.W.cls_value I.kIn T.rd T.it (by decide +kernel) ?_)
  show wpAny _ _ (callWith pos (Value.builtin "ValueError.__init__") [] (backTo pos (starEach (e :: es) X.env)) []) _ _ _
  refine PyProof.Rows.callWith_method1 (thn (ha.run pos pins _ σ H _ (I.tok _) h) fun us s1 ⟨vs, H1, I1, r1, a, C, ws, ev, hl, T, ea, q⟩ => ?_) he hpl
  subst ev
  cases r1 with
  | @cons _ u0 _ ur ra rw' =>
    obtain rfl : u0 = Value.ref a := ra
    have hlen : ur.length ≤ sizeLine := by
      rw [← Paired.length rw', sizeLine_eq]
      omega
    exact oinit_ok T I1 ea hlen fun s' J => ⟨.non, H1, J, rfl, q⟩
end
end Hz
set_option Elab.async false
set_option linter.all false
set_option maxRecDepth 100000
set_option maxHeartbeats 2000000
namespace Dl
open PySem PySem.Spec PyProof.Rows L2
/-- __init__(self, f): Base.__init__(self, ..); self.f = f -/
def spInit (K : PySem.W.Frag) (f : Str) : Sp := fun vs H Q _ => ∃ (a C : Addr) (y : V), vs = [.ref a, y] ∧ OexC K C ∧ PySem.W.findIn K (.ref C) f = some none ∧ H a = some (exo a C none) ∧ ∀ dx, H dx = none → dx ≠ a → Q .non (upd (upd H dx (exd dx [(f, y)])) a (exo a C (some dx)))
def GExcO (M : Mach) (x f : Str) (k : Nat) : Prop := ∃ (C fI : Addr) (fd : FuncData), M.mg x = some (.ref C) ∧ OexC M.K C ∧ PySem.W.findIn M.K (.ref C) "__init__" = some (some (.ref fI)) ∧ PySem.W.typeIn M.K (.ref fI) = some (.type "function") ∧ PySem.W.findIn M.K (.ref C) f = some none ∧
  FnOk M.P M.w M.K M.mg M.base (L2N.CX M.P M.w) k fI fd ["self", f] (spInit M.K f) ∧ Binds M.K fd ["self", f] []
theorem GExcO.mono {M : Mach} {x f : Str} {j k : Nat} (h : GExcO M x f j) (l : j ≤ k) : GExcO M x f k := by
  obtain ⟨C, fI, fd, h1, h2, h3, h4, h5, h6, h7⟩ := h
  exact ⟨C, fI, fd, h1, h2, h3, h4, h5, h6.mono l, h7⟩
end Dl
namespace Hz
open PySem PySem.Spec PyProof.Rows L2 HotX L2H Dl
/-- its dict, if it has one, is as its attributes are told -/
def DictAt (H : Hp) : Option Addr → Prop
  | none => True
  | some dd => ∃ fs, H dd = some (.xd fs)
theorem DictAt.ext {H H' : Hp} (e : Ext H H') : ∀ {d : Option Addr}, DictAt H d → DictAt H' d
  | none, _ => True.intro
  | some _, ⟨fs, h⟩ => ⟨fs, e _ _ h⟩
section
open PySem.W PySem.Calls
variable {prog : Program} {w : World} {A : Around} {E : Value → Shared → Prop} {s : Shared} {K : Frag} {x D : Addr} {ox : Obj} {od : Obj}
theorem kin_classD {Q : Option Value → Shared → Prop} (hga : findIn K (.ref D) "__getattribute__" = some (some (.builtin "BaseException.__getattribute__"))) (hgt : findIn K (.ref D) "__getattr__" = some none) (hsub : subIn K (.ref D) (.type "BaseException") = some true)
    (hdct : hasDictIn K D = true) (ha : findIn K (.ref D) "__class__" = some (some (.builtin "object.__class__")))
    (hn : specialIn K (.builtin "object.__class__") "__get__" = some (some (.builtin "getset_descriptor.__get__"))) (htk : takesIn K (.builtin "object.__class__") = some true) (hm : mroIn K D (.type "object") = some true)
    (X : K.In s.heap) (I : InstAt s.heap x ox D (some od)) (h : Q (some (.ref D)) { s with toks := s.toks + 1 }) : wpAny (model prog w) A (getAttr? (.ref x) "__class__") Q E s := by
  have hf : findObj K D (some od) "__class__" = some (.bind (.builtin "getset_descriptor.__get__") (.builtin "object.__class__")) := findObj_data (by obtain ⟨cd, hc, _⟩ := any_some hdct; rw [hc]; rfl) ha hn htk
  obtain ⟨hp, g, d, t, os⟩ := s
  have L0 := I.type (M := model prog w)
  have L1 := looks_findIn (M := model prog w) X hga
  have L2 := looks_findIn (M := model prog w) X hgt
  have L3 := looks_find (M := model prog w) X I hf
  have sub : Looks (model prog w) hp (isInstance (.ref x) (.type "BaseException")) true := L0.andThen (looks_subIn X hsub)
  have hx0 : (false && onTheHeap (Value.builtin "BaseException.__getattribute__")) = false := rfl
  have hx2 : (Value.builtin "BaseException.__getattribute__" == Value.builtin "object.__getattribute__") = false := by decide +kernel
  have hx1 : (onTheHeap (Value.ref D) && Value.builtin "BaseException.__getattribute__" == Value.builtin "object.__getattribute__") = false := by rw [hx2]; rfl
  unfold getAttr? getAttrBy? getAttrBy
  refine wpAny_bind (wpAny_mkText (wpAny_bind (wpAny_attempt (wpAny_holding (wpAny_bind (L0.at (wpAny_bind (L1.at ?_))))))))
  show wpAny _ _ (if (onTheHeap (Value.ref D) && Value.builtin "BaseException.__getattribute__" == Value.builtin "object.__getattribute__") = true then _ else _) _ _ _
  rw [hx1, if_neg Bool.false_ne_true]
  unfold getAttrByItsOwn hookBefore
  refine wpAny_bind ?_
  rw [if_pos (show onTheHeap (Value.ref D) = true from rfl)]
  refine L2.at ?_
  refine wpAny_bind (wpAny_attempt (wpAny_holding ?_))
  unfold callGetattribute
  rw [hx0, if_neg Bool.false_ne_true]
  unfold boundAndCalled
  rw [PySem.F.excAttr_ValueError.ga.bind (.ref x)]
  refine wpAny_bind (wpAny_pure ?_)
  show wpAny _ _ (call (.builtin "BaseException.__getattribute__") [.ref x, .str "__class__" t]) _ _ _
  refine wpAny_call (codeAny_call_builtin PySem.F.excAttr_ValueError.ga.plain PySem.F.entry_bexc_ga ?_)
  refine @check_slot (model prog w) _ _ ⟨hp, g, d, t + 1, os⟩ "BaseException.__getattribute__" "BaseException" "__getattribute__" (.ref x) [.str "__class__" t] [] _ (by decide +kernel) (by decide +kernel) sub (PySem.F.args_bexc_ga (.ref x) (.str "__class__" t)) ?_
  unfold Builtin.«object.__getattribute__»
  refine wpAny_bind (wpAny_of_eq (a := ((Value.ref x : Value), [Value.str "__class__" t])) (by first | rfl | (simp only [slotArgs]; rfl)) ?_)
  refine wpAny_bind (wpAny_pure (wpAny_bind (L0.at (wpAny_bind (L3.at ?_)))))
  show wpAny _ _ (holding [Value.builtin "object.__class__"] (call (.builtin "getset_descriptor.__get__") [.builtin "object.__class__", .ref x, .ref D]) >>= ret) _ _ _
  refine wpAny_bind (wpAny_holding (wpAny_call (class_get (s := ⟨hp, g, d, t + 1, os⟩) (ox := ox) (od := some od) X I hm ?_)))
  refine wpAny_pure ?_
  show wpAny _ _ (handedOut (.ref D)) _ _ _
  rw [handedOut_of (v := .ref D) rfl]
  first
    | exact wpAny_pure (wpAny_pure h)
    | exact wpAny_pure h
    | exact wpAny_pure (wpAny_bind (wpAny_pure (wpAny_pure h)))
theorem kitx_excD (hga : findIn K (.ref D) "__getattribute__" = some (some (.builtin "BaseException.__getattribute__"))) (hgt : findIn K (.ref D) "__getattr__" = some none) (hsub : subIn K (.ref D) (.type "BaseException") = some true) (hdct : hasDictIn K D = true) (ha : findIn K (.ref D) "__class__" = some (some (.builtin "object.__class__")))
    (hn : specialIn K (.builtin "object.__class__") "__get__" = some (some (.builtin "getset_descriptor.__get__"))) (htk : takesIn K (.builtin "object.__class__") = some true) (hm : mroIn K D (.type "object") = some true) :
    KitX K (.ref x) (.ref D) (fun h => InstAt h x ox D (some od)) where
  ty := fun _ _ _ I => I.type
  it := fun _ _ X _ => by
    obtain ⟨cdD, hcD, _⟩ := any_some hdct
    unfold clsIn at hcD
    split at hcD
    · rename_i c' d' cd' sl' ho
      intro A' Q' E' s' k q
      unfold isType loadHead
      exact wpAny_bind (wpAny_loadPart (k _ _ (X _ _ ho)) (wpAny_pure q))
    · cases hcD
  ne := fun h tp dd its n sl X htp => by
    obtain ⟨cdD, hcD, _⟩ := any_some hdct
    refine Bool.eq_false_iff.mpr fun q => ?_
    have e : D = tp := Value.ref.inj (beq_iff_eq.mp q)
    subst e
    unfold clsIn at hcD
    split at hcD
    · rename_i c' d' cd' sl' ho
      have z := (X _ _ ho).symm.trans htp
      cases z
    · cases hcD
  ca := fun X I k => kin_classD hga hgt hsub hdct ha hn htk hm X I k
end
end Hz
set_option Elab.async false
set_option linter.all false
set_option maxRecDepth 100000
set_option maxHeartbeats 2000000
namespace Dl
open PySem PySem.Spec PyProof.Rows L2
theorem reps_prs {K : PySem.W.Frag} {F : Hp} : ∀ {rows : List (Int × Int)} {vs : List V}, Reps K F vs (rows.map dPr) → ∃ ps : List Addr, vs = ps.map V.ref ∧ Paired (fun p (kv : Key × V) => SqT K F p [kV kv.1, kv.2]) ps (rows.map entK)
  | [], _, .nil => ⟨[], rfl, .nil⟩
  | (i, j) :: rows, _, .cons r rs => by
    obtain ⟨ps, rfl, h⟩ := reps_prs rs
    cases r with
    | @tup a vs ds hq hr =>
      obtain ⟨v, w, rfl, rv, rw'⟩ := reps2 hr
      cases rv
      cases rw'
      exact ⟨a :: ps, rfl, .cons hq h⟩
theorem putI_new {tb : List (Int × Int)} {r : Int × Int} (h : ∀ x ∈ tb, x.1 ≠ r.1) : putI tb r.1 r.2 = tb ++ [r] := by
  unfold putI
  rw [if_neg]
  intro z
  obtain ⟨x, hx, e⟩ := List.any_eq_true.mp z
  exact h x hx (of_decide_eq_true e)
theorem foldl_putI : ∀ {rows tb : List (Int × Int)}, (tb ++ rows).Pairwise (fun a b => a.1 ≠ b.1) → rows.foldl (fun t r => putI t r.1 r.2) tb = tb ++ rows
  | [], tb, _ => by rw [List.foldl_nil, List.append_nil]
  | r :: rows, tb, h => by
    have e : tb ++ r :: rows = (tb ++ [r]) ++ rows := by rw [List.append_assoc]; rfl
    rw [List.foldl_cons, putI_new fun x hx => (List.pairwise_append.mp h).2.2 x hx r List.mem_cons_self, foldl_putI (by rw [← e]; exact h), e]
theorem mergeK_ints : ∀ (rows tb : List (Int × Int)), mergeK (tb.map entK) (rows.map entK) = (rows.foldl (fun t r => putI t r.1 r.2) tb).map entK
  | [], _ => rfl
  | r :: rows, tb => by
    show mergeK (putK (tb.map entK) (Sum.inl r.1 : Key) (V.int r.2)) (rows.map entK) = _
    rw [putK_putI, mergeK_ints rows]
    rfl
theorem paired_mono {α β : Type} {R R' : α → β → Prop} (h : ∀ a b, R a b → R' a b) : ∀ {as : List α} {bs : List β}, Paired R as bs → Paired R' as bs
  | _, _, .nil => .nil
  | _, _, .cons r t => .cons (h _ _ r) (paired_mono h t)
section
variable {M : Mach} {X : Cx} {N : List Str} {sc : Scope} {vb lb gb : Str → Bool} {B : Bs} {G : Sl} {O : Own} {e o : Expr} {pos p : Pos}
theorem we_dictI {rows : List (Int × Int)} {Φ : D → Own → Prop} (C : Cxt M X N sc vb lb gb) (he : PEv X B G O e (.lst (rows.map dPr))) (nd : rows.Pairwise fun a b => a.1 ≠ b.1) (hm : M.mg "dict" = none) (hg : gb "dict" = true) (h : ∀ q, Φ (.obj q) ((q, .dic (rows.map entD)) :: O))
    (sa : Plain1 e := by exact fun _ _ => star_cons rfl) : WE X B G O (.Call (.Name "dict" p) [e] [] pos) Φ :=
  we_callTy (R := fun xs O Φ => ∃ rows : List (Int × Int), xs = [.lst (rows.map dPr)] ∧ rows.Pairwise (fun a b => a.1 ≠ b.1) ∧ ∀ q, Φ (.obj q) ((q, .dic (rows.map entD)) :: O)) C (call_dictP C.calm) (fun B G O F σ H xs ds Φ S r h Q k => by
    obtain ⟨rows, rfl, nd, q⟩ := h
    obtain ⟨v, rfl, rv⟩ := reps1 r
    cases rv with
    | lst hq rs =>
      obtain ⟨ps, rfl, hp⟩ := reps_prs rs
      refine ⟨_, ps, rows.map entK, rfl, sqL_mono S.ex hq, paired_mono (fun _ _ z => sqT_mono S.ex z) hp, fun a ha => ?_⟩
      have e : mergeK [] (rows.map entK) = rows.map entK := by
        have z := mergeK_ints rows []
        rw [foldl_putI (by rw [List.nil_append]; exact nd), List.nil_append] at z
        exact z
      rw [e]
      exact k _ F _ _ _ (S.allocOwn ha (ov := .dic (rows.map entD)) ⟨rows.map entK, upd_same, ints_preps _⟩) (Same.refl _) (.obj a) (q a)) hm hg (by decide +kernel) (wa_cons (we_pv he (wa_nil ⟨rows, rfl, nd, h⟩)) (sa _ _)) (he := sa _ _)
/-- list(d) -/
theorem pn_listD {q : Addr} {tb : List (Int × Int)} (C : Cxt M X N sc vb lb gb) (ho : PEv X B G O o (.obj q)) (ht : (q, OV.dic (tb.map entD)) ∈ O) (hm : M.mg "list" = none) (hg : gb "list" = true) (sa : Plain1 o := by exact fun _ _ => star_cons rfl) : PNv X B G O (.Call (.Name "list" p) [o] [] pos) ((tb.map (·.1)).map D.int) :=
  wn_callTy (R := fun xs O Φ => ∃ (q : Addr) (tb : List (Int × Int)), xs = [.obj q] ∧ (q, OV.dic (tb.map entD)) ∈ O ∧ Φ ((tb.map (·.1)).map D.int) O) C (call_list_dK C.calm) (fun B G O F σ H xs ds Φ S r h Q k => by
    obtain ⟨q, tb, rfl, hq, p⟩ := h
    obtain ⟨v, rfl, rv⟩ := reps1 r
    cases rv
    refine ⟨q, tb.map entK, rfl, own_dic S hq, fun l hl => ?_⟩
    have e : (tb.map entK).map (fun kv => kV kv.1) = (tb.map (·.1)).map V.int := by rw [List.map_map, List.map_map]; rfl
    rw [e]
    exact k l ((tb.map (·.1)).map D.int) F _ O (S.allocOwn hl (ov := .lst ((tb.map (·.1)).map D.int)) ⟨_, upd_same, ints_reps _⟩) (Same.refl _) p) hm hg (by decide +kernel) (wa_cons (we_pv ho (wa_nil ⟨q, tb, rfl, ht, rfl, rfl⟩)) (sa _ _)) (he := sa _ _)
end
end Dl
set_option Elab.async false
set_option linter.all false
set_option maxRecDepth 100000
set_option maxHeartbeats 2000000
namespace Dl
open PySem PySem.Spec PyProof.Rows L2
section
variable {M : Mach} {X : Cx} {N : List Str} {sc : Scope} {vb lb gb : Str → Bool} {B : Bs} {G : Sl} {O : Own} {a e f o i value : Expr} {pos pos' p p2 apos cpos : Pos} {d1 : D} {E : EndsD} {st : Stmt}
/-- a dict of ints, walked or not -/
inductive DicO (O : Own) (q : Addr) (tb : List (Int × Int)) : Prop
  | own : (q, OV.dic (tb.map entD)) ∈ O → DicO O q tb
  | frd {od : Obj} : (q, OV.frd od tb) ∈ O → DicO O q tb
theorem dico_rd {F H : Hp} {σ : L2.St} {q : Addr} {tb : List (Int × Int)} (S : Sat X.K B G O F σ H) (h : DicO O q tb) : Rd H q (.dK (tb.map entK)) := by
  cases h with
  | own h => exact .inl (own_dic S h)
  | frd h => exact .inr ⟨_, (S.own _ h).2⟩
/-- d[k] -/
theorem pv_dsubI {q : Addr} {tb : List (Int × Int)} {k z : Int} (C : Cxt M X N sc vb lb gb) (ho : PEv X B G O o (.obj q)) (he : PEv X B G O e (.int k)) (hm : DicO O q tb) (hz : getI tb k = some z) (hs : NoSl e := by intro _ _; rfl) : PEv X B G O (.Subscript o e pos) (.int z) := fun F σ H S Q kk =>
  sem (pe_dget (Nat.lt_of_le_of_lt (by omega) C.un) pe_sem pe_sem hs) (ho F σ H S _ fun v F1 H1 d O1 S1 e1 r1 p1 => by
    obtain ⟨rfl, rfl⟩ := p1
    cases r1
    refine he F1 σ H1 S1 _ fun v F2 H2 d O2 S2 e2 r2 p2 => ?_
    obtain ⟨rfl, rfl⟩ := p2
    cases r2
    refine ⟨q, .int z, rfl, .inl ⟨_, Sum.inl k, dico_rd S2 hm, rfl, ?_⟩, kk _ F2 H2 _ O2 S2 (e1.trans e2) (.int z) ⟨rfl, rfl⟩⟩
    rw [valV_getI, hz]
    rfl)
/-- sorted(d) -/
theorem wn_sortedD {q : Addr} {tb : List (Int × Int)} {Φ : List D → Own → Prop} (C : Cxt M X N sc vb lb gb) (ho : PEv X B G O o (.obj q)) (ht : DicO O q tb) (h64 : tb.length < 64) (hm : M.mg "sorted" = none) (hg : gb "sorted" = true)
    (h : ∀ ys : List Int, ys.Perm (tb.map (·.1)) → ys.Pairwise (· ≤ ·) → Φ (ys.map D.int) O) (sa : Plain1 o := by exact fun _ _ => star_cons rfl) : WN X B G O (.Call (.Name "sorted" p) [o] [] pos) Φ :=
  wn_callB (R := fun xs O Φ => ∃ (q : Addr) (tb : List (Int × Int)), xs = [.obj q] ∧ DicO O q tb ∧ tb.length < 64 ∧ ∀ ys : List Int, ys.Perm (tb.map (·.1)) → ys.Pairwise (· ≤ ·) → Φ (ys.map D.int) O) C (call_sortedDI C.calm) (fun B G O F σ H xs ds Φ S r h Q k => by
    obtain ⟨q, tb, rfl, hq, hl, p⟩ := h
    obtain ⟨v, rfl, rv⟩ := reps1 r
    cases rv
    refine ⟨q, tb.map entK, tb.map (·.1), rfl, dico_rd S hq, by rw [List.map_map, List.map_map]; rfl, by rw [List.length_map]; exact hl, fun ys l h1 h2 hl => ?_⟩
    exact k l (ys.map D.int) F _ O (S.allocOwn hl (ov := .lst (ys.map D.int)) ⟨_, upd_same, ints_reps _⟩) (Same.refl _) (p ys h1 h2)) hm hg (by decide +kernel) (wa_cons (we_pv ho (wa_nil ⟨q, tb, rfl, ht, h64, h⟩)) (sa _ _)) (he := sa _ _)
end
end Dl
set_option Elab.async false
set_option linter.all false
set_option maxRecDepth 100000
set_option maxHeartbeats 2000000
namespace L2
open PySem PySem.Spec PyProof.Rows
end L2
namespace L2
open PySem PySem.Spec PyProof.Rows
end L2
set_option Elab.async false
set_option linter.all false
set_option maxRecDepth 100000
set_option maxHeartbeats 2000000
namespace Dl
open PySem PySem.Spec PyProof.Rows L2
end Dl
set_option Elab.async false
set_option linter.all false
set_option maxRecDepth 100000
set_option maxHeartbeats 2000000
namespace RZ
open PySem PySem.Spec PyProof.Rows L2
/-- the list at a and the tuple at b, in new pairs -/
def ItzM (K : PySem.W.Frag) (a b : Addr) : It :=
  ⟨fun i H => ∃ (xs ys : List V) (x y : V), SqL K H a xs ∧ SqT K H b ys ∧ xs[i]? = some x ∧ ys[i]? = some y,
    fun i H v H' => ∃ T x y, v = .ref T ∧ H T = none ∧ H' = upd H T (.tup [x, y]) ∧ (∀ xs, SqL K H a xs → xs[i]? = some x) ∧ ∀ ys, SqT K H b ys → ys[i]? = some y,
    fun i H => ∃ xs ys : List V, SqL K H a xs ∧ SqT K H b ys ∧ xs.length = i ∧ ys.length = i⟩
theorem sep_of {z TI TO i1 i2 a b : Addr} (D : ZipApart z TI TO i1 i2 a b) : ZipSep2 z TI TO i1 i2 [i1, a] [i2, b] := by
  refine ⟨D.TIz, D.TOz, D.TITO, D.TIi1, List.mem_cons_self, ?_, ?_, D.TIi2, List.mem_cons_self, ?_, ?_, ?_, ?_⟩ <;>
    simp only [List.mem_cons, List.not_mem_nil, or_false, not_or]
  · exact ⟨Ne.symm D.i1z, Ne.symm D.l1z⟩
  · exact ⟨D.TOi1, Ne.symm D.l1TO⟩
  · exact ⟨Ne.symm D.i2z, Ne.symm D.l2z⟩
  · exact ⟨D.TOi2, Ne.symm D.l2TO⟩
  · exact ⟨D.i12, Ne.symm D.l2i1⟩
  · exact ⟨Ne.symm D.i12, Ne.symm D.l1i2⟩
theorem turn_zipM {P : Program} {w : World} {K : PySem.W.Frag} {elts : List Expr} {kk : Nat} {tpos : Pos} {a b z TI TO i1 i2 : Addr} (D : ZipApart z TI TO i1 i2 a b) :
    Turn P w K (.Tuple elts kk tpos) (ItzM K a b) [z, TI, TO, i1, i2] z (fun i h => IsZip h z TI TO .none ∧ IsPair h TI (.ref i1) (.ref i2) ∧ (∃ x y, IsPair h TO x y) ∧ h.IsListIter i1 a i ∧ h.IsTupleIter i2 b i) where
  mem := List.mem_cons_self
  obj := fun i h st c hc => by
    obtain ⟨hz, hTI, ⟨x, y, hTO⟩, ⟨o1, e1, _, d1⟩, ⟨o2, e2, _, d2⟩⟩ := st
    simp only [List.mem_cons, List.not_mem_nil, or_false] at hc
    rcases hc with rfl | rfl | rfl | rfl | rfl
    · exact ⟨_, hz, fun v q => nomatch q⟩
    · exact ⟨_, hTI, fun v q => nomatch q⟩
    · exact ⟨_, hTO, fun v q => nomatch q⟩
    · exact ⟨o1, e1, fun v q => by rw [d1] at q; cases q⟩
    · exact ⟨o2, e2, fun v q => by rw [d2] at q; cases q⟩
  keep := fun i h h' ⟨hz, hTI, ⟨x, y, hTO⟩, h1, h2⟩ k => ⟨k z (by simp) _ hz, k TI (by simp) _ hTI, ⟨x, y, k TO (by simp) _ hTO⟩, h1.at fun o q => k i1 (by simp) o q, h2.at fun o q => k i2 (by simp) o q⟩
  item := by
    intro X hP hw hK hc i pins s σ H E I hf st hg
    subst hP hw hK
    obtain ⟨hz, hTI, ⟨x0, y0, hTO⟩, h1, h2⟩ := st
    obtain ⟨xs, ys, x, y, hqx, hqy, hx, hy⟩ := hg
    obtain ⟨its, rv, p, _⟩ := I.list hqx
    obtain ⟨its2, rv2, p2, _⟩ := I.tuple hqy
    obtain ⟨u, hu, ru⟩ := rv.get hx
    obtain ⟨u2, hu2, ru2⟩ := rv2.get hy
    have hin : X.A.in1.handled = none := by simp [I.ok.hd hc]
    have hu' : its.toArray[i]? = some u := by simpa using hu
    have hu2' : its2.toArray[i]? = some u2 := by simpa using hu2
    have hzl : z < s.heap.objs.size := Heap.lt_size hz
    refine wpAny_pyNext_zipD2_item (sep_of D) (Draws.list hin i1 a D.l1i1 its.toArray) (Draws.tuple hin i2 b D.l2i2 its2.toArray) hz hTI hTO ⟨h1, p.isList⟩ ⟨h2, (show s.heap.IsTuple b its2.toArray from p2)⟩ (Array.getElem?_eq_some_iff.mp hu').1 (Array.getElem?_eq_some_iff.mp hu2').1 fun v1 v2 h' tk e1 e2 z' TO' d1 d2 hT hsz hk => ?_
    obtain rfl : v1 = u := Option.some.inj (e1.symm.trans hu')
    obtain rfl : v2 = u2 := Option.some.inj (e2.symm.trans hu2')
    refine ⟨_, rfl, wpAny_letOwnedTupleGo_zip (s := { s with heap := h', toks := tk }) z' fun h'' z'' sb => ?_⟩
    have hT2 : h''.get? s.heap.objs.size = some { cls := .type "tuple", data := .seq #[v1, v2] } := (sb.2 _ (Nat.ne_of_gt hzl)).trans hT
    have new : ObjOk X.prog X.w (upd H s.heap.objs.size (.tup [x, y])) h'' s.heap.objs.size (.tup [x, y]) := ⟨by show 2 ≤ sizeLine; decide, [v1, v2], .cons ru (.cons ru2 .nil), ⟨_, hT2, rfl, _, rfl⟩⟩
    have I1 : Inv X pins σ (upd H s.heap.objs.size (.tup [x, y])) { s with heap := h'', toks := tk } :=
      I.turnedNew (t' := tk) (ch := [z, TI, TO, i1, i2]) (fun c o hb q => (sb.2 c (fun q' => hb (by simp [q']))).trans (hk c o (fun q' => hb (by simp [q'])) (fun q' => hb (by simp [q'])) (fun q' => hb (by simp [q'])) (fun q' => hb (by simp [q'])) q)) hf (Nat.le_refl _) new
    refine ⟨.ref s.heap.objs.size, _, I1, rfl, ⟨_, x, y, rfl, I.hok.fresh (Nat.le_refl _), rfl, fun l hl => by rw [I.list_inj hl hqx]; exact hx, fun l hl => by rw [I.tuple_inj hl hqy]; exact hy⟩, ⟨z'', (sb.2 _ D.TIz).trans (hk _ _ D.TIz D.TITO D.TIi1 D.TIi2 hTI), ⟨v1, v2, (sb.2 _ D.TOz).trans TO'⟩, d1.1.at fun o q => (sb.2 _ D.i1z).trans q, d2.1.at fun o q => (sb.2 _ D.i2z).trans q⟩, fun c hcm => ?_⟩
    have hlt : c < s.heap.objs.size := by
      have e' := hcm
      simp only [List.mem_cons, List.not_mem_nil, or_false] at e'
      rcases e' with rfl | rfl | rfl | rfl | rfl
      · exact hzl
      · exact Heap.lt_size hTI
      · exact Heap.lt_size hTO
      · obtain ⟨_, e1, _⟩ := h1; exact Heap.lt_size e1
      · obtain ⟨_, e2, _⟩ := h2; exact Heap.lt_size e2
    rw [upd_ne (Nat.ne_of_lt hlt)]
    exact (hf c hcm).1
  done := by
    intro X hP hw hK hc i pins s σ H E I hf st hg
    subst hP hw hK
    obtain ⟨hz, hTI, ⟨x0, y0, hTO⟩, h1, h2⟩ := st
    obtain ⟨xs, ys, hqx, hqy, e1, e2⟩ := hg
    obtain ⟨its, rv, p, _⟩ := I.list hqx
    obtain ⟨its2, rv2, p2, _⟩ := I.tuple hqy
    have hin : X.A.in1.handled = none := by simp [I.ok.hd hc]
    have l1 : its.toArray.size = i := by rw [List.size_toArray, ← rv.length]; exact e1
    have l2 : its2.toArray.size = i := by rw [List.size_toArray, ← rv2.length]; exact e2
    exact wpAny_pyNext_zipD2_end (sep_of D) (Draws.list hin i1 a D.l1i1 its.toArray) (Draws.tuple hin i2 b D.l2i2 its2.toArray) hz hTI hTO ⟨h1, p.isList⟩ ⟨h2, (show s.heap.IsTuple b its2.toArray from p2)⟩ (Nat.le_of_eq l1.symm) (Nat.le_of_eq l2.symm) (.inl l1.symm) fun h' tk hk => ⟨rfl, I.turnedL (t' := tk) (ch := [z, TI, TO, i1, i2]) (fun c o hb q =>
      hk c o (fun q' => hb (by simp [q'])) (fun q' => hb (by simp [q'])) (fun q' => hb (by simp [q'])) (fun q' => hb (by simp [q'])) q) hf⟩
  self := fun A i s Q E st h => wpAny_pyIter_zip st.1 h
def iZipM (K : PySem.W.Frag) (ta : TA) : TI := fun σ H R => ta σ H fun vs H1 => ∃ a b xs ys, vs = [.ref a, .ref b] ∧ SqL K H1 a xs ∧ SqT K H1 b ys ∧ R (ItzM K a b) H1
theorem pi_zipM {X : Cx} {e e2 : Expr} {ta : TA} {p pos tpos : Pos} {elts : List Expr} {kk : Nat} (hg : Gl X "zip") (hm : X.mg "zip" = none) (ha : PA X [e, e2] ta)
    (hs : starEach [e, e2] X.env = (false, eval e X.env) :: starEach [e2] X.env) (hpl : (backTo pos (starEach [e2] X.env)).any (·.1) = false) : PI X (.Tuple elts kk tpos) (.Call (.Name "zip" p) [e, e2] [] pos) (iZipM X.K ta) := by
  refine ⟨fun pins s σ H R I h => Call_ (ld_blt I hg hm PyProof.Rows.boot_zip (PyProof.Rows.callWith_type1 (thn (ha.run pos pins s σ H _ I h) fun us s1 ⟨vs, H1, I1, r1, a, b, xs, ys, ex, hqx, hqy, q⟩ => ?_) hs hpl))⟩
  subst ex
  obtain ⟨u, u', rfl, r, r'⟩ : ∃ u u', us = [u, u'] ∧ RelV (.ref a) u ∧ RelV (.ref b) u' := by
    cases r1 with
    | cons r rr => cases rr with
      | cons r' rr => cases rr; exact ⟨_, _, rfl, r, r'⟩
  cases r
  cases r'
  obtain ⟨its, rv, p1, _⟩ := I1.list hqx
  obtain ⟨its2, rv2, p2, _⟩ := I1.tuple hqy
  obtain ⟨o2, ho2, _⟩ := id p2
  refine zip_begins2 (begins_list a its.toArray) (begins_tuple b its2.toArray) p1.isList (show s1.heap.IsTuple b its2.toArray from p2) fun h' hz hTI hTO h1 h2 hsz hk => wpAny_pyIter_zip hz ?_
  have I2 : Inv X pins σ H1 { s1 with heap := h' } := I1.kept (t' := s1.toks) hk
  refine ⟨s1.heap.objs.size + 4, [s1.heap.objs.size + 4, s1.heap.objs.size + 2, s1.heap.objs.size + 3, s1.heap.objs.size, s1.heap.objs.size + 1], _, _, H1, rfl, I2, turn_zipM (PySem.W.ktu_apart s1.heap.objs.size a b p1.lt (Heap.lt_size ho2)), ⟨hz, hTI, ⟨_, _, hTO⟩, ⟨_, h1, rfl, rfl⟩, ⟨_, h2, rfl, rfl⟩⟩, fun c hcm => ?_, q⟩
  have hle : s1.heap.objs.size ≤ c := by
    simp only [List.mem_cons, List.not_mem_nil, or_false] at hcm
    rcases hcm with e | e | e | e | e <;> rw [e] <;> first | exact Nat.le_add_right _ _ | exact Nat.le_refl _
  exact I1.fpOk hle (I1.hok.fresh hle)
end RZ
namespace Dl
open PySem PySem.Spec PyProof.Rows L2
theorem jok_zipM {K : PySem.W.Frag} {F : Hp} {a b : Addr} {vs ws : List V} {ds es : List D} (h1 : SqL K F a vs) (r1 : Reps K F vs ds) (h2 : SqT K F b ws) (r2 : Reps K F ws es) (hl : ds.length = es.length) : JOk K (RZ.ItzM K a b) F [] (zipD ds es) where
  go := fun i F2 H2 e1 e2 _ hi => by
    have hz : (zipD ds es).length = ds.length := by unfold zipD; rw [List.length_zipWith]; omega
    rw [hz] at hi
    exact ⟨vs, ws, vs[i]'(by rw [r1.length]; exact hi), ws[i]'(by rw [r2.length]; omega), (e1.trans e2).seq h1, sqT_mono (e1.trans e2) h2, by simp, by simp⟩
  stop := fun F2 H2 e1 e2 _ => by
    have hz : (zipD ds es).length = ds.length := by unfold zipD; rw [List.length_zipWith]; omega
    rw [hz]
    exact ⟨vs, ws, (e1.trans e2).seq h1, sqT_mono (e1.trans e2) h2, r1.length, by rw [r2.length]; exact hl.symm⟩
  yld := fun i F2 H2 x H3 e1 e2 _ hi y => by
    obtain ⟨T, u, v, rfl, hT, rfl, y1, y2⟩ := y
    obtain ⟨d, hd, rd⟩ := r1.get' (y1 vs ((e1.trans e2).seq h1))
    obtain ⟨e, he, re⟩ := r2.get' (y2 ws (sqT_mono (e1.trans e2) h2))
    exact ⟨_, zipD_get hd he, .inr ⟨T, _, hT, rfl, pair_rep (e2.free hT) (rd.mono e1) (re.mono e1)⟩⟩
section
variable {M : Mach} {X : Cx} {N : List Str} {sc : Scope} {vb lb gb : Str → Bool} {B : Bs} {G : Sl} {O : Own} {a b : Expr} {pos p tpos : Pos}
/-- zip of a list and a tuple of one length -/
theorem wiv_zipM {xs ys : List D} {elts : List Expr} {kk : Nat} (C : Cxt M X N sc vb lb gb) (hm : M.mg "zip" = none) (hg : gb "zip" = true) (ha : PEv X B G O a (.lst xs)) (hb : PEv X B G O b (.tup ys)) (hl : xs.length = ys.length) (sa : Plain1 a := by exact fun _ _ => star_cons rfl) (sb : Plain1 b := by exact fun _ _ => star_cons rfl) :
    WIv X B G O (.Tuple elts kk tpos) (.Call (.Name "zip" p) [a, b] [] pos) (zipD xs ys) [] := fun F σ H S R k =>
  semI (RZ.pi_zipM (C.gl _ hg).1 (by rw [C.mg]; exact hm) pa_sem (sa _ _) (plain_any sb)) ((pa_consv ha (pa_consv hb pa_nilv (sb _ _)) (sa _ _) : PAv X B G O [a, b] [.lst xs, .tup ys]) F σ H S _ fun vs F1 H1 zs O1 S1 e1 r1 p1 => by
    obtain ⟨rfl, rfl⟩ := p1
    obtain ⟨v, w, rfl, rv, rw'⟩ := reps2 r1
    cases rv with
    | lst hq rs => cases rw' with
      | tup hq2 rs2 => exact ⟨_, _, _, _, rfl, S1.ex.seq hq, sqT_mono S1.ex hq2, k _ F1 H1 _ _ O1 S1 e1 (jok_zipM hq rs hq2 rs2 hl) ⟨rfl, rfl, rfl⟩⟩)
end
end Dl
set_option Elab.async false
set_option linter.all false
set_option maxRecDepth 100000
set_option maxHeartbeats 2000000
namespace Dl
open PySem PySem.Spec PyProof.Rows L2
section
variable {M : Mach} {X : Cx} {N : List Str} {sc : Scope} {vb lb gb : Str → Bool} {B : Bs} {G : Sl} {O : Own} {a : Expr} {pos p : Pos}
theorem we_all {Φ : D → Own → Prop} (C : Cxt M X N sc vb lb gb) (hm : M.mg "all" = none) (hg : gb "all" = true) (h : WE X B G O a fun d O1 => ∃ ns : List Bool, ItemsL O1 d (ns.map D.bl) ∧ Φ (.bl (ns.all id)) O1) (sa : Plain1 a := by exact fun _ _ => star_cons rfl) : WE X B G O (.Call (.Name "all" p) [a] [] pos) Φ :=
  we_callB (R := fun xs O Φ => ∃ (d : D) (ns : List Bool), xs = [d] ∧ ItemsL O d (ns.map D.bl) ∧ Φ (.bl (ns.all id)) O) C (cr_all C.calm) (fun B G O F σ H xs ds Φ S r h Q k => by
    obtain ⟨d, ns, rfl, it, q⟩ := h
    obtain ⟨v, rfl, rv⟩ := reps1 r
    obtain ⟨a, vs, rfl, rs, hq⟩ := itemsL_ok S rv it
    rw [reps_bls rs] at hq
    exact ⟨a, ns, rfl, hq, k _ F H _ O S (Same.refl _) (.bl _) q⟩) hm hg (by decide +kernel) (wa_cons (h.mono fun d O1 z => wa_nil (by
      obtain ⟨ns, it, q⟩ := z
      exact ⟨d, ns, rfl, it, q⟩)) (sa _ _)) (he := sa _ _)
end
/-- different whole numbers from 0 to n - 1 are at most n -/
theorem nodup_le : ∀ (n : Nat) {xs : List Int}, xs.Nodup → (∀ x ∈ xs, 0 ≤ x ∧ x < n) → xs.length ≤ n
  | 0, xs, _, h => by
    cases xs with
    | nil => exact Nat.le_refl _
    | cons x r => have := h x List.mem_cons_self; omega
  | n + 1, xs, nd, h => by
    have h1 := nodup_le n (nd.filter fun x => decide (x ≠ (n : Int))) fun x hx => by
      obtain ⟨h1, h2⟩ := List.mem_filter.mp hx
      have := h x h1
      have h2 := of_decide_eq_true h2
      omega
    have h2 : ∀ {xs : List Int}, xs.Nodup → xs.length ≤ (xs.filter fun x => decide (x ≠ (n : Int))).length + 1 := by
      intro xs nd
      induction xs with
      | nil => exact Nat.zero_le _
      | cons x r ih =>
        obtain ⟨n1, n2⟩ := List.nodup_cons.mp nd
        by_cases c : x = (n : Int)
        · have e : (r.filter fun x => decide (x ≠ (n : Int))) = r := List.filter_eq_self.mpr fun y hy => decide_eq_true fun z => n1 (by rw [c, ← z]; exact hy)
          rw [List.filter_cons_of_neg (by simp [c]), e, List.length_cons]
          exact Nat.le_refl _
        · rw [List.filter_cons_of_pos (by simp [c]), List.length_cons, List.length_cons]
          have := ih n2
          omega
    have := h2 nd
    omega
end Dl
set_option Elab.async false
set_option linter.all false
set_option maxRecDepth 100000
set_option maxHeartbeats 2000000
namespace Dl
open PySem PySem.Spec PyProof.Rows L2
section
variable {M : Mach} {X : Cx} {N : List Str} {sc : Scope} {vb lb gb : Str → Bool} {B : Bs} {G : Sl} {O : Own} {E : EndsD}
/-- x is not y, of bools -/
def dNotB : DR2 := fun x y O Φ => ∃ a b : Bool, x = .bl a ∧ y = .bl b ∧ Φ (.bl (!decide (a = b))) O
theorem dop_notB : DOp X rNotB dNotB := fun B G O F σ H x y dx dy Φ S rx ry h Q k => by
  obtain ⟨a, b, rfl, rfl, q⟩ := h
  cases rx
  cases ry
  exact ⟨a, b, rfl, rfl, k _ F H _ O S (Same.refl _) (.bl _) q⟩
theorem pt_notB {a b : Expr} {pos : Pos} {x y : Bool} (ha : PEv X B G O a (.bl x)) (hb : PEv X B G O b (.bl y)) : PTv X B G O (.Compare a [.IsNot] [b] pos) (!decide (x = y)) :=
  ptv_cmp op_notBl dop_notB (nomark _) ha hb ⟨x, y, rfl, rfl, rfl, rfl⟩ fun O Φ Ψ k ⟨a, b, h1, h2, z⟩ => ⟨a, b, h1, h2, k _ _ z⟩
end
end Dl
set_option Elab.async false
set_option linter.all false
set_option maxRecDepth 100000
set_option maxHeartbeats 2000000
namespace Gz
open PySem PySem.Spec PyProof.Rows L2 GenW
/-- from here the code runs to an end with Φ -/
def SegF (M : Model) (A : Around) (Φ : End → Shared → Prop) (c : Code) (t : Sem PySem.Fin) (fs : List Frame) (s : Shared) : Prop :=
  ∀ Γ p, Γ.code = c → Γ.Woken A → ∃ e s', Runs M Γ p t fs s e s' ∧ Φ e s'
section
variable {M : Model} {A : Around} {Φ Ψ : End → Shared → Prop} {c : Code} {fs : List Frame} {s : Shared} {env : Env}
  {K : Flow → Sem PySem.Fin} {J : Value → Sem PySem.Fin} {gd : Bool → Bool} {lv : List Value → List Value} {t : Sem PySem.Fin}
theorem SegF.mono (h : SegF M A Φ c t fs s) (k : ∀ e s', Φ e s' → Ψ e s') : SegF M A Ψ c t fs s := fun Γ p h1 h2 => by
  obtain ⟨e, s', hr, he⟩ := h Γ p h1 h2
  exact ⟨e, s', hr, k e s' he⟩
theorem sf_wrap {α : Type} {m : Sem α} {K : α → Sem PySem.Fin} {gd lv} (h : wpAny M (A.over c fs) m (fun a s' => SegF M A Φ c (K a) fs s') (fun x s' => SegF M A Φ c (J x) fs s') s) : SegF M A Φ c (m.wrap K J gd lv) fs s := by
  rintro Γ p rfl hΓ
  exact runs_wrap_of_wp K J gd lv m (h (Γ.over fs) p (hΓ.over fs)) (fun a p' s' h' => h' Γ p' rfl hΓ) fun x p' s' h' => h' Γ p' rfl hΓ
theorem sf_bind {α β : Type} {m : Sem α} {K : α → Sem β} {K' : β → Sem PySem.Fin} {gd lv} (h : wpAny M (A.over c fs) m (fun a s' => SegF M A Φ c ((K a).wrap K' J gd lv) fs s') (fun x s' => SegF M A Φ c (J x) fs s') s) : SegF M A Φ c ((m >>= K).wrap K' J gd lv) fs s := by
  rw [Sem.bind_eq_wrap', Sem.wrap_wrap]
  exact sf_wrap h
theorem sf_at {p' : Pos} {k : Unit → Sem PySem.Fin} (h : SegF M A Φ c (k ()) fs s) : SegF M A Φ c (.at p' k) fs s := sf_wrap (J := .raise) (m := standAt p') (K := k) (gd := id) (lv := id) (wpAny_standAt h)
theorem sf_point {l : List Value} {k : Unit → Sem PySem.Fin} (h : SegF M A Φ c (k ()) fs s) : SegF M A Φ c (.point l k) fs s := sf_wrap (J := .raise) (m := point) (K := k) (gd := id) (lv := fun _ => l) (wpAny_point h)
theorem sf_call {c' : Code} {h g l} {k : Result → Sem PySem.Fin} (hc : ∀ p, SegF M A Φ c' (M.den c') (.ret k h g l c p [] :: fs) s) : SegF M A Φ c (.call c' h g l k) fs s := by
  rintro Γ p rfl hΓ
  obtain ⟨e, s', hr, he⟩ := hc p (Γ.goto c') p rfl (hΓ.goto c')
  exact ⟨e, s', runs_call_seg hr, he⟩
theorem sf_leaf {k h g l c₁ p₁ kp} (r : Result) (hk : SegF M A Φ c₁ (k r) fs s) : SegF M A Φ c (leafOf r) (.ret k h g l c₁ p₁ kp :: fs) s := by
  rintro Γ p rfl hΓ
  obtain ⟨e, s', hr, he⟩ := hk (Γ.goto c₁) p₁ rfl (hΓ.goto c₁)
  exact ⟨e, s', Runs.pop r hr, he⟩
theorem sf_again {c' : Code} (hq : c'.quiet = true) (hc : SegF M A Φ c' (M.den c') fs s) : SegF M A Φ c (.pure (.again c')) fs s := by
  rintro Γ p rfl hΓ
  obtain ⟨e, s', hr, he⟩ := hc (Γ.goto c') p rfl (hΓ.goto c')
  exact ⟨e, s', Runs.head (c₁ := c') (fun _ _ x => .again hq x) hr, he⟩
theorem sf_end (r : Result) (h : Φ (.ret r) s) : SegF M A Φ c (leafOf r) [] s := by
  rintro Γ p rfl _
  exact ⟨.ret r, s, Runs.leaf r, h⟩
theorem sf_yield {v g l} {k : Resume → Sem PySem.Fin} (hfs : splitAtGen fs = none) (h : ∀ p, Φ (.susp v g l k c p fs) s) : SegF M A Φ c (.yield v g l k) fs s := by
  rintro Γ p rfl _
  exact ⟨_, s, Runs.yield' fs hfs, h p⟩
theorem sf_execs_nil (h : SegF M A Φ c (K .next) fs s) : SegF M A Φ c ((execs [] env).wrap K J gd lv) fs s := h
theorem sf_execs_cons {st : Stmt} {rest : List Stmt} (h : SegF M A Φ c ((exec st env).wrap (fun f => match f with | .next => (execs rest env).wrap K J gd lv | f => K f) J gd lv) fs s) : SegF M A Φ c ((execs (st :: rest) env).wrap K J gd lv) fs s := by
  rw [execs_cons_wrap]
  exact h
/-- yield e: it sleeps -/
theorem sf_Expr_Yield {e : Expr} {ypos pos : Pos} (hfs : splitAtGen fs = none)
    (h : wpAny M (A.over c fs) (eval e env) (fun v s' => ∀ (g : Bool) (l : List Value) (k : Resume → Sem PySem.Fin) p, g = gd false → (∀ s'', SegF M A Φ c (K .next) fs s'' → SegF M A Φ c (k (.send .none)) fs s'') → (∀ Ψ s'', SegF M A Ψ c (K .next) fs s'' → SegF M A Ψ c (k (.send .none)) fs s'') → Φ (.susp v g l k c p fs) s')
      (fun x s' => SegF M A Φ c (J x) fs s') s) (hco : env.scope.isCoroutine = false) (hi : interactive env = false) :
    SegF M A Φ c ((exec (.Expr (.Yield (some e) ypos) pos) env).wrap K J gd lv) fs s := by
  rw [exec_Expr env _ pos hi rfl]
  show SegF M A Φ c (.at pos fun _ => ((eval e env >>= fun v => (standAt ypos >>= fun _ => yieldOut env v)) >>= fun x => dropValue (.Yield (some e) ypos) pos x).wrap K J gd lv) fs s
  have hy : ∀ v, yieldOut env v = yieldValue v := fun v => by simp only [yieldOut, hco, Bool.false_eq_true, if_false]
  simp only [hy]
  refine sf_at ?_
  rw [Sem.bind_eq_wrap', Sem.bind_eq_wrap', Sem.wrap_wrap, Sem.wrap_wrap]
  refine sf_wrap (wpAny_mono h (fun v s' h' => ?_) fun _ _ x => x)
  refine sf_at (sf_yield hfs fun p => h' _ _ _ p rfl (fun s'' hx => hx) fun Ψ s'' hx => hx)
/-- what a loop's call does with what comes back -/
abbrev backFl (env : Env) (r : Result) : Sem Flow := (match r with | .ok f => (.pure f : Sem Flow) | .error e => .raise e).onRaise (cameBack env)
theorem sf_For {target iter : Expr} {body : List Stmt} {pos : Pos} (hs : ∀ x, foldedSetIterable iter env x = pure x)
    (h : wpAny M (A.over c fs) (eval iter env) (fun v s1 => wpAny M (A.over c fs) (pyIter v) (fun it s2 => ∀ p, SegF M A Φ (.forLoop target it body [] env) (M.den (.forLoop target it body [] env))
      (.ret (fun r => (backFl env r).wrap K J gd lv) none (gd false) (lv []) c p [] :: fs) s2) (fun x s' => SegF M A Φ c (J x) fs s') s1) (fun x s' => SegF M A Φ c (J x) fs s') s) :
    SegF M A Φ c ((exec (.For target iter body [] pos) env).wrap K J gd lv) fs s := by
  rw [exec_For]
  refine sf_bind (wpAny_standAt ?_)
  refine sf_bind (wpAny_mono h (fun v s1 h1 => ?_) fun _ _ x => x)
  refine sf_bind (wpAny_of_eq (hs v) ?_)
  refine sf_bind (wpAny_standAt ?_)
  refine sf_bind (wpAny_holding (wpAny_mono h1 (fun it s2 h2 => ?_) fun _ _ x => x))
  exact sf_call h2
end
section
variable {prog : Program} {w : World} {A : Around} {Φ : End → Shared → Prop} {fs : List Frame} {s : Shared} {env : Env}
theorem sf_func {body : List Stmt}
    (h : SegF (model prog w) A Φ (.func body env) ((execs body env).wrap (fun f => .pure (.done (.ret (match f with | .ret v => v | _ => .none)))) (fun e => (leaving env e).wrap (fun _ => .raise e) .raise id id) id id) fs s) :
    SegF (model prog w) A Φ (.func body env) ((model prog w).den (.func body env)) fs s := by
  show SegF _ A Φ (.func body env) (.point [] fun _ => ((execs body env).onRaise (leaving env)) >>= _) fs s
  refine sf_point ?_
  rw [Sem.onRaise_eq_wrap, Sem.bind_eq_wrap', Sem.wrap_wrap]
  rw [Sem.wrap_congr (execs body env) _ _ (K' := fun f => .pure (.done (.ret (match f with | .ret v => v | _ => .none))))
    (H' := fun e => (leaving env e).wrap (fun _ => .raise e) .raise id id) (fun f => by cases f <;> rfl)
    (fun e => by rw [Sem.bind_eq_wrap, Sem.wrap_wrap]; rfl)]
  exact h
/-- a turn of the loop -/
theorem sf_forLoop {x : Str} {px : Pos} {it : Value} {body : List Stmt}
    (h : wpAny (model prog w) (A.over (.forLoop (.Name x px) it body [] env) fs) (pyNext it) (fun r s1 => match r with
        | none => SegF (model prog w) A Φ (.forLoop (.Name x px) it body [] env) (.pure (.again (.block [] env))) fs s1
        | some v => wpAny (model prog w) (A.over (.forLoop (.Name x px) it body [] env) fs) (assign (.Name x px) env v) (fun _ s2 =>
          SegF (model prog w) A Φ (.forLoop (.Name x px) it body [] env) ((execs body env).wrap (fun f => match f with
            | .next | .cont => .pure (.again (.forLoop (.Name x px) it body [] env))
            | .brk => .pure (.done .next)
            | .ret v => .pure (.done (.ret v))) (fun e => (do noteFrame e env; theTreesLotGoes e : Sem Unit).wrap (fun _ => .raise e) .raise id id) id id) fs s2) (fun _ _ => False) s1) (fun _ _ => False) s) :
    SegF (model prog w) A Φ (.forLoop (.Name x px) it body [] env) ((model prog w).den (.forLoop (.Name x px) it body [] env)) fs s := by
  show SegF _ A Φ _ ((forTurn (.Name x px) it body [] env).onRaise (fun x => do noteFrame x env; theTreesLotGoes x)) fs s
  unfold forTurn
  rw [Sem.onRaise_eq_wrap]
  refine sf_bind (wpAny_standAt ?_)
  refine sf_bind (wpAny_onRaise (wpAny_mono h (fun r s1 h1 => ?_) fun _ _ x => x.elim))
  cases r with
  | none => exact h1
  | some v =>
    refine sf_bind (wpAny_of_eq (rfl : letOwnedTupleGo (.Name x px) it v = pure ()) ?_)
    refine sf_bind (wpAny_mono h1 (fun _ s2 h2 => ?_) fun _ _ x => x.elim)
    rw [Sem.bind_eq_wrap', Sem.wrap_wrap]
    rw [Sem.wrap_congr (execs body env) _ _ (K' := fun f => match f with
            | .next | .cont => .pure (.again (.forLoop (.Name x px) it body [] env))
            | .brk => .pure (.done .next)
            | .ret v => .pure (.done (.ret v))) (H' := (fun e => (do noteFrame e env; theTreesLotGoes e : Sem Unit).wrap (fun _ => .raise e) .raise id id))
        (fun f => by cases f <;> rfl)
        (fun e => by first | exact Sem.bind_eq_wrap _ _ | (show (do noteFrame e env; theTreesLotGoes e : Sem Unit).bind (fun _ => .raise e) = _; rw [Sem.bind_eq_wrap]))]
    exact h2
theorem sf_loopEnd {it : Value} {target : Expr} {body : List Stmt} {k : Result → Sem PySem.Fin} {hd : Option Value} {g : Bool} {l kp : List Value} {c : Code} {p : Pos}
    (h : SegF (model prog w) A Φ c (k (.ok .next)) fs s) : SegF (model prog w) A Φ (.forLoop target it body [] env) (.pure (.again (.block [] env))) (.ret k hd g l c p kp :: fs) s := by
  refine sf_again rfl ?_
  show SegF _ A Φ _ (leafOf (.ok .next)) _ s
  exact sf_leaf (.ok .next) h
end
/-- the objects that a sleeping loop lives in: its list, the list's iterator, the frame -/
structure Priv (L T it : Addr) (items : Array Value) (i : Nat) (h : Heap) : Prop where
  iter : h.IsListIter it T i
  list : h.IsList T items
  ns : ∃ m, h.Ns L m
/-- a step that writes the frame and the iterator alone -/
def Step (L it : Addr) (s s' : Shared) : Prop := ∃ h' tk, s' = { s with heap := h', toks := tk } ∧ ∀ b o, b ≠ L → b ≠ it → s.heap.get? b = some o → h'.get? b = some o
/-- a generator that sleeps behind its i-th item, m are left: what its next turns give -/
def Sleeps (M : Model) (A : Around) (L T it : Addr) (items : Array Value) : Nat → Nat → GenState → Prop
  | 0, i, gs => ∃ k l c p fs cl, gs = .suspended k l c p fs cl ∧ ∀ s, Priv L T it items i s.heap → SegF M A (fun e s' => e = .ret (.ok (.ret .none)) ∧ Step L it s s') c (k (.send .none)) fs s
  | m + 1, i, gs => ∃ k l c p fs cl, gs = .suspended k l c p fs cl ∧ ∀ s, Priv L T it items i s.heap → SegF M A (fun e s' => ∃ v g' l' k' c' p' fs', e = .susp v g' l' k' c' p' fs' ∧ e.quiet = true ∧ items[i]? = some v ∧ Step L it s s' ∧ Priv L T it items (i + 1) s'.heap ∧ Sleeps M A L T it items m (i + 1) e.genState) c (k (.send .none)) fs s
section
variable {prog : Program} {w : World} {A : Around} {fsX : List Frame} {env : Env}
/-- one turn of `for x in xs: yield x`, from the loop's code on -/
theorem sf_loopTurn {Φ : End → Shared → Prop} {x : Str} {px px2 yp yq : Pos} {T it : Addr} {items : Array Value} {i : Nat} {s : Shared} (hA : (A.over (.forLoop (.Name x px) (.ref it) [.Expr (.Yield (some (.Name x px2)) yp) yq] [] env) fsX).handled = none)
    (hk : env.scope.kind = .function) (hx : env.kindOf x = some .local) (hd : (x == ("__debug__" : Str)) = false) (hco : env.scope.isCoroutine = false) (hi : interactive env = false) (hTi : T ≠ it) (hLi : env.locals ≠ it) (hLT : env.locals ≠ T)
    (hfs : splitAtGen fsX = none) (hfg : fsX.any Frame.guarded = false) (pr : Priv env.locals T it items i s.heap) (hle : i ≤ items.size)
    (hE : ∀ s', i = items.size → Step env.locals it s s' → SegF (model prog w) A Φ (.forLoop (.Name x px) (.ref it) [.Expr (.Yield (some (.Name x px2)) yp) yq] [] env) (.pure (.again (.block [] env))) fsX s')
    (hY : ∀ v s' l (k : Resume → Sem PySem.Fin) p, items[i]? = some v → Step env.locals it s s' → Priv env.locals T it items (i + 1) s'.heap →
      (∀ Ψ s'', SegF (model prog w) A Ψ (.forLoop (.Name x px) (.ref it) [.Expr (.Yield (some (.Name x px2)) yp) yq] [] env) ((model prog w).den (.forLoop (.Name x px) (.ref it) [.Expr (.Yield (some (.Name x px2)) yp) yq] [] env)) fsX s'' →
        SegF (model prog w) A Ψ (.forLoop (.Name x px) (.ref it) [.Expr (.Yield (some (.Name x px2)) yp) yq] [] env) (k (.send .none)) fsX s'') → Φ (.susp v false l k (.forLoop (.Name x px) (.ref it) [.Expr (.Yield (some (.Name x px2)) yp) yq] [] env) p fsX) s') :
    SegF (model prog w) A Φ (.forLoop (.Name x px) (.ref it) [.Expr (.Yield (some (.Name x px2)) yp) yq] [] env) ((model prog w).den (.forLoop (.Name x px) (.ref it) [.Expr (.Yield (some (.Name x px2)) yp) yq] [] env)) fsX s := by
  have W := Walks.list (prog := prog) (w := w) hA it T hTi items
  have hp : (env.scope.kind == .class || (env.scope.kind == .module && env.locals != env.globals)) = false := by rw [hk]; rfl
  by_cases hlt : i < items.size
  · refine sf_forLoop (W.item i s _ _ hlt ⟨pr.iter, pr.list⟩ fun v h1 tk1 hv st1 hk1 => ?_)
    obtain ⟨mm, hn⟩ := pr.ns
    have hn1 : h1.Ns env.locals mm := hn.at' fun o e => hk1 _ o (by simpa using hLi) e
    refine wpAny_assign_Name (wpAny_storeName_local hx hn1 (fun h2 hn2 hs2 => ?_) hp)
    have up : ∀ b o, b ≠ env.locals → b ≠ it → s.heap.get? b = some o → h2.get? b = some o := fun b o hbL hbi e => (hs2.2 b hbL).trans (hk1 b o (by simpa using hbi) e)
    have P2 : Priv env.locals T it items (i + 1) h2 := ⟨st1.1.at fun o e => (hs2.2 it (Ne.symm hLi)).trans e, st1.2.at fun o e => (hs2.2 T (Ne.symm hLT)).trans e, ⟨_, hn2⟩⟩
    refine sf_execs_cons (sf_Expr_Yield hfs (wpAny_Name (wpAny_loadName_local hk hx hn2 (if_pos rfl) fun g l k p hg _ hkap => ?_) hd) hco hi)
    subst hg
    refine hY v _ l k p hv ⟨h2, tk1 + 1, rfl, up⟩ P2 fun Ψ s'' h3 => hkap Ψ s'' ?_
    exact sf_execs_nil (sf_again rfl h3)
  · have hin : i = items.size := by omega
    subst hin
    refine sf_forLoop (W.done s _ _ ⟨pr.iter, pr.list⟩ fun h' tk hk' => ?_)
    exact hE _ rfl ⟨h', tk, rfl, fun b o _ h2 e => hk' b o (by simpa using h2) e⟩
theorem quiet_of {v l} {k : Resume → Sem PySem.Fin} {c p} {fs : List Frame} (hfg : fs.any Frame.guarded = false) : (End.susp v false l k c p fs).quiet = true := by
  show (!(false || fs.any Frame.guarded)) = true
  rw [hfg]
  rfl
/-- behind a yield the loop sleeps on -/
theorem sleeps_loop {x : Str} {px px2 yp yq : Pos} {T it : Addr} {items : Array Value} (hA : (A.over (.forLoop (.Name x px) (.ref it) [.Expr (.Yield (some (.Name x px2)) yp) yq] [] env) fsX).handled = none)
    (hk : env.scope.kind = .function) (hx : env.kindOf x = some .local) (hd : (x == ("__debug__" : Str)) = false) (hco : env.scope.isCoroutine = false) (hi : interactive env = false) (hTi : T ≠ it) (hLi : env.locals ≠ it) (hLT : env.locals ≠ T)
    (hfs : splitAtGen fsX = none) (hfg : fsX.any Frame.guarded = false)
    (hE : ∀ (Φ : End → Shared → Prop) s', Φ (.ret (.ok (.ret .none))) s' → SegF (model prog w) A Φ (.forLoop (.Name x px) (.ref it) [.Expr (.Yield (some (.Name x px2)) yp) yq] [] env) (.pure (.again (.block [] env))) fsX s') :
    ∀ m i gs, i + m = items.size → (∃ (k : Resume → Sem PySem.Fin) (l : List Value) (p : Pos) (cl : Bool), gs = .suspended k l (.forLoop (.Name x px) (.ref it) [.Expr (.Yield (some (.Name x px2)) yp) yq] [] env) p fsX cl ∧
      ∀ Ψ s'', SegF (model prog w) A Ψ (.forLoop (.Name x px) (.ref it) [.Expr (.Yield (some (.Name x px2)) yp) yq] [] env) ((model prog w).den (.forLoop (.Name x px) (.ref it) [.Expr (.Yield (some (.Name x px2)) yp) yq] [] env)) fsX s'' →
        SegF (model prog w) A Ψ (.forLoop (.Name x px) (.ref it) [.Expr (.Yield (some (.Name x px2)) yp) yq] [] env) (k (.send .none)) fsX s'') → Sleeps (model prog w) A env.locals T it items m i gs := by
  intro m
  induction m with
  | zero =>
    rintro i gs him ⟨k, l, p, cl, rfl, hkap⟩
    refine ⟨k, l, _, p, fsX, cl, rfl, fun s pr => hkap _ s (sf_loopTurn hA hk hx hd hco hi hTi hLi hLT hfs hfg pr (by omega) (fun s' _ hst => hE _ s' ⟨rfl, hst⟩) fun v s' l k p hv _ _ _ => ?_)⟩
    have := (Array.getElem?_eq_some_iff.mp hv).1
    omega
  | succ m ih =>
    rintro i gs him ⟨k, l, p, cl, rfl, hkap⟩
    refine ⟨k, l, _, p, fsX, cl, rfl, fun s pr => hkap _ s (sf_loopTurn hA hk hx hd hco hi hTi hLi hLT hfs hfg pr (by omega) (fun s' e _ => by omega) fun v s' l2 k2 p2 hv hst pr2 hkap2 => ?_)⟩
    exact ⟨v, false, l2, k2, _, p2, fsX, rfl, quiet_of hfg, hv, hst, pr2, ih (i + 1) _ (by omega) ⟨k2, l2, p2, _, rfl, hkap2⟩⟩
end
end Gz
set_option Elab.async false
set_option linter.all false
set_option maxRecDepth 100000
set_option maxHeartbeats 2000000
namespace Gz
open PySem PySem.Spec PyProof.Rows L2 GenW
open Sem (wp)
end Gz
set_option Elab.async false
set_option linter.all false
set_option maxRecDepth 100000
set_option maxHeartbeats 2000000
namespace Gz
open PySem PySem.Spec PyProof.Rows L2 GenW
/-- behind the first segment, as behind a call that began at s -/
structure FF (P : Program) (w : World) (outer : List Env) (H : Hp) (s : Shared) (a : Addr) (g : Nat) (L : Addr) (ex : List (Addr × Obj)) (Q1 : Hp → Prop) (H' : Hp) (s1 : Shared) : Prop where
  os : s1.os = s.os
  bare : AllBare s1.gens
  un : Un (frs outer) [] H H' s.heap s1.heap
  hok : HOk P w H' s1.heap
  nL : H' L = none
  na : H' a = none
  isg : s1.heap.IsGen a g
  lim : s1.heap.NoLimit
  pin : ∀ p ∈ ex, s1.heap.get? p.1 = some p.2 ∧ H' p.1 = none
  q : Q1 H'
/-- the first segment's end: all is out, or the first item is and the loop sleeps -/
def FEnd (P : Program) (w : World) (K : PySem.W.Frag) (A : Around) (outer : List Env) (H : Hp) (s : Shared) (a : Addr) (g : Nat) (L : Addr) (ex : List (Addr × Obj)) (Q1 : Addr → List V → Hp → Prop) (e : End) (s1 : Shared) : Prop :=
  (e = .ret (.ok (.ret .none)) ∧ ∃ T H', FF P w outer H s a g L ex (Q1 T []) H' s1) ∨
  ∃ v g' l k c p fs T it H', ∃ (out : List V) (items : List Value), e = .susp v g' l k c p fs ∧ e.quiet = true ∧ FF P w outer H s a g L ex (Q1 T out) H' s1 ∧ SqL K H' T out ∧ H' it = none ∧ Vals out items ∧ items[0]? = some v ∧ T ≠ it ∧ L ≠ it ∧ L ≠ T ∧ a ≠ it ∧ s.heap.objs.size ≤ it ∧ (∀ p ∈ ex, p.1 ≠ it ∧ p.1 ≠ T) ∧
    Priv L T it items.toArray 1 s1.heap ∧ Sleeps (model P w) A L T it items.toArray (items.length - 1) 1 e.genState
/-- a generator that was made by a call -/
def GMk (P : Program) (w : World) (K : PySem.W.Frag) (k : Nat) (outer : List Env) (H : Hp) (s : Shared) (Q1 : Addr → List V → Hp → Prop) (u : Value) (s' : Shared) : Prop :=
  ∃ (a : Addr) (g : Nat) (c : Code) (L : Addr), u = .ref a ∧ s.heap.objs.size ≤ a ∧ a < s'.heap.objs.size ∧ s.heap.objs.size ≤ L ∧ L < s'.heap.objs.size ∧ L ≠ a ∧ s'.heap.IsGen a g ∧ s'.gens[g]? = some (.fresh c) ∧ s'.os = s.os ∧ AllBare s'.gens ∧ s'.heap.NoLimit ∧ (∀ b o, s.heap.get? b = some o → s'.heap.get? b = some o) ∧
    ∀ (A : Around) (ex : List (Addr × Obj)) (s2 : Shared), Room k A → A.frames = some outer → (∀ b o, s'.heap.get? b = some o → s2.heap.get? b = some o) → s2.os = s.os → AllBare s2.gens → (∀ p ∈ ex, s'.heap.objs.size ≤ p.1 ∧ s2.heap.get? p.1 = some p.2 ∧ ∀ v, p.2.data ≠ .cell v) → SegF (model P w) A (FEnd P w K A outer H s a g L ex Q1) c ((model P w).den c) [] s2
/-- arguments, heap, what is handed out, what is true of the heap behind the first segment -/
abbrev SpO := List V → Hp → (Addr → List V → Hp → Prop) → Prop
structure GOk (P : Program) (w : World) (K : PySem.W.Frag) (mg : Str → Option Value) (base : Heap) (k : Nat) (f : Addr) (fd : FuncData) (ps : List Str) (sp : SpO) : Prop where
  len : ∀ vs H Q, sp vs H Q → vs.length = ps.length
  run : ∀ (A : Around) (outer : List Env) (s : Shared) (H : Hp) (args : Args) (us : List Value) (vs : List V) (Q1 : Addr → List V → Hp → Prop), Room k A → Env0 P w K mg base A outer s H → BindsTo s fd args (ps.zip us) → Vals vs us → sp vs H Q1 →
    codeAny (model P w) A (.call (.ref f) args) (fun r s' => match r with | .ok (.ret u) => GMk P w K k outer H s Q1 u s' | _ => False) s
theorem ff_step {P : Program} {w : World} {K : PySem.W.Frag} {mg : Str → Option Value} {base : Heap} {N : List Str} {qual : Str} {scope : Scope} {f : Addr} {cd : Value} {A : Around} {outer : List Env} {s s4 s1 : Shared} {H H' : Hp} {E : XK} {a : Addr} {go : Obj} {ex : List (Addr × Obj)} {g : Nat} {σ : L2.St} {Q1 : Hp → Prop}
    (I : Inv (gcxOf P w K mg base N qual scope f cd A outer s H E ((a, go) :: ex)) [] σ H' s4) (hgen : ∀ h : Heap, h.get? a = some go → h.IsGen a g) (ho : s1.os = s4.os) (hg : s1.gens = s4.gens)
    (k : ∀ b o, b ≠ s.heap.objs.size → s4.heap.get? b = some o → s1.heap.get? b = some o) (q : Q1 H') : FF P w outer H s a g s.heap.objs.size ex Q1 H' s1 := by
  obtain ⟨p1, p2, p3, p4, _⟩ := I.pin (a, go) (List.mem_append_left _ List.mem_cons_self)
  have neL : ∀ b o, s.heap.get? b = some o → b ≠ s.heap.objs.size := fun b o e => Nat.ne_of_lt (Heap.lt_size e)
  have B : Un (frs outer) [] H H' s.heap s4.heap := I.base
  have hL : H' s.heap.objs.size = none := I.free
  refine ⟨ho.trans I.os, hg ▸ I.bare, ⟨fun b o e n hb hx => k b o (neL b o e) (B.keep b o e n hb hx), fun b o e n hb hx => ?_, B.free, fun b o e hx => ?_, B.tups, B.frzs, B.tbls⟩, fun b u e => ?_, hL, p2, hgen _ (k a go p3 p1), ?_, fun p hp => ?_, q⟩
  · obtain ⟨sl, e1⟩ := B.slot b o e n hb hx
    exact ⟨sl, k b _ (neL b o e) e1⟩
  · obtain ⟨o', e1⟩ := B.there b o e hx
    exact ⟨o', k b o' (neL b o e) e1⟩
  · have nit : ∀ b u, H' b = some u → b ≠ s.heap.objs.size := fun b u e z => by rw [z, hL] at e; cases e
    refine (I.hok b u e).stay (fun c v hc y => k c v ?_ y) (fun _ q => q) fun _ _ q => q
    rcases hc with z | z
    · rw [z]; exact nit b u e
    · exact nit c _ z
  · obtain ⟨mc, hns, hnn⟩ := I.nolimit
    refine ⟨mc, hns.at' fun o e => k _ o (fun z => ?_) e, hnn⟩
    obtain ⟨_, hb, _⟩ := I.ok.mod.nolimit
    have h1 := hb.lt
    have h2 : base.objs.size ≤ s.heap.objs.size := I.ok.bsz
    have h3 : cStatics < base.objs.size := h1
    rw [z] at h3
    exact absurd (Nat.lt_of_lt_of_le h3 h2) (Nat.lt_irrefl _)
  · obtain ⟨y1, y2, y3, _, _⟩ := I.pin p (List.mem_append_left _ (List.mem_cons_of_mem _ hp))
    exact ⟨k _ _ y3 y1, y2⟩
theorem cx_false {P : Program} {w : World} {outer : List Env} {H : Hp} {s s' : Shared} {e : Value} (h : CX P w outer H s (fun _ _ _ => False) e s') : False := by
  obtain ⟨_, _, _, _, _, _, _, _, _, _, _, _, z⟩ := h
  exact z
theorem gok_of {P : Program} {w : World} {K : PySem.W.Frag} {mg : Str → Option Value} {base : Heap} {k : Nat} {f : Addr} {name qual : Str} {params : Arguments} {scope : Scope} {dV kV doc pm cdv ct oc : Value} {an od : Option Addr}
    {osl : Array (Option Value)} {N ps : List Str} {sp : SpO} {st0 : Stmt} {e : Expr} {x : Str} {px px2 yp yq fp : Pos}
    (lk : K.lookup f = some ⟨oc, od, .func (PySem.W.fnOf name qual params [st0, .For (.Name x px) e [.Expr (.Yield (some (.Name x px2)) yp) yq] [] fp] scope dV kV doc pm an cdv ct), osl⟩) (hcd : PySem.W.codeIn K cdv qual = true) (S : GScope N ps scope)
    (hx : scope.names.lookup x = some .local) (hd : (x == ("__debug__" : Str)) = false) (len : ∀ vs H Q, sp vs H Q → vs.length = ps.length) (hs : ∀ env v, foldedSetIterable e env v = pure v)
    (hbody : ∀ (A : Around) (outer : List Env) (s : Shared) (H : Hp) (vs : List V) (Q1 : Addr → List V → Hp → Prop) (pn : List (Addr × Obj)), Room k (A.deeper (envOfC qual scope s.heap.objs.size f cdv)) → sp vs H Q1 →
      ∃ tS tE, PS (gcxOf P w K mg base N qual scope f cdv A outer s H (fun _ _ _ => False) pn) st0 tS ∧ PE (gcxOf P w K mg base N qual scope f cdv A outer s H (fun _ _ _ => False) pn) e tE ∧
        tS { nx := fun σ H1 => tE σ H1 fun v H2 => ∃ T out, v = .ref T ∧ SqL K H2 T out ∧ Q1 T out H2, rt := fun _ _ => False } (start N vs) H) :
    GOk P w K mg base (k + 1) f (PySem.W.fnOf name qual params [st0, .For (.Name x px) e [.Expr (.Yield (some (.Name x px2)) yp) yq] [] fp] scope dV kV doc pm an cdv ct) ps sp := by
  refine ⟨len, fun A outer s H args us vs Q1 hr e0 hb r hsp => ?_⟩
  have hl := len _ _ _ hsp
  have KX : K.In s.heap := e0.mod.kin.keeps fun b o e => (e0.bs b o e).1
  have lim : s.heap.NoLimit := e0.mod.nolimit.keeps fun b o e => (e0.bs b o e).1
  have hkind : ∀ y ∈ ps.zip us, scope.names.lookup y.1 = some .local ∨ (scope.names.lookup y.1 = some .cell ∧ ((cellsFrom (s.heap.objs.size + 1) scope.names []).lookup y.1).isSome = true) := fun ⟨n, v⟩ hy => by
    rcases S.par n (List.of_mem_zip hy).1 with q | q
    · exact .inl q
    · exact .inr ⟨q, PySem.W.cellsFrom_some _ _ _ (.inl q)⟩
  refine codeAny_call_generator hr.depth (KX _ _ lk) rfl S.co S.gen rfl (PySem.W.codeRec_of KX hcd) (hb _ _ _ _ ?_)
  refine wpAny_newFunctionEnv_cells S.kind hkind fun env he s1 x1 => ?_
  subst he
  have lim1 : s1.heap.NoLimit := lim.keeps x1.toInCall.keep
  refine ⟨lim1, ?_⟩
  obtain ⟨h1, tk, es1, hk1⟩ := x1.done
  have os1 : s1.os = s.os := by rw [es1]
  have gen1 : s1.gens = s.gens := by rw [es1]
  have lt1 : s.heap.objs.size < s1.heap.objs.size := x1.toInCall.ns.lt
  have kp1 : ∀ b o, s.heap.get? b = some o → s1.heap.get? b = some o := x1.toInCall.keep
  have main : ∀ (go : Obj) (nm qn : Value) (tk2 : Nat), go.cls = .type "generator" → go.data = .fields #[.int s1.gens.size 0, nm, qn] → go.slots = #[] → (∀ h : Heap, (h.push go).get? h.objs.size = some go) →
      GMk P w K (k + 1) outer H s Q1 (.ref s1.heap.objs.size) { s1 with gens := s1.gens.push (.fresh (.func [st0, .For (.Name x px) e [.Expr (.Yield (some (.Name x px2)) yp) yq] [] fp] (envOfC qual scope s.heap.objs.size f cdv))), toks := tk2, heap := s1.heap.push go } := by
    intro go nm qn tk2 hgc hgd0 hgs hgp
    have hgen : ∀ h : Heap, h.get? s1.heap.objs.size = some go → h.IsGen s1.heap.objs.size s1.gens.size := fun h e => ⟨go, nm, qn, e, hgc, hgd0, hgs⟩
    have hpushed : (s1.heap.push go).get? s1.heap.objs.size = some go := hgp _
    have szp : (s1.heap.push go).objs.size = s1.heap.objs.size + 1 := Heap.size_push ..
    refine ⟨s1.heap.objs.size, s1.gens.size, _, s.heap.objs.size, rfl, Nat.le_of_lt lt1, ?_, Nat.le_refl _, ?_, Nat.ne_of_lt lt1, hgen _ hpushed, Array.getElem?_push_size .., os1, ?_, lim1.keeps fun b o e => Heap.get?_push_of_some _ e, fun b o e => Heap.get?_push_of_some _ (kp1 b o e), ?_⟩
    · show _ < (s1.heap.push _).objs.size
      rw [szp]; exact Nat.lt_succ_self _
    · show _ < (s1.heap.push _).objs.size
      rw [szp]; omega
    · exact AllBare.push (by rw [gen1]; exact e0.bare) rfl
    intro Aw ex s2 hrw hfr hk2 hos hba hex
    have e0w : Env0 P w K mg base Aw outer s H := ⟨hfr, e0.mod, e0.bs, e0.bsz, e0.funs, e0.frf, e0.hok, e0.bare⟩
    obtain ⟨tS, tE, hS, hE, hq⟩ := hbody Aw outer s H vs Q1 ((s1.heap.objs.size, go) :: ex) (hrw.deeper _) hsp
    have I1 : Inv (gcxOf P w K mg base N qual scope f cdv Aw outer s H (fun _ _ _ => False) []) [] (start N vs) H s1 := inv_startG S hrw.hd e0w hl r x1
    have kp2 : ∀ b o, s1.heap.get? b = some o → s2.heap.get? b = some o := fun b o e => hk2 b o (Heap.get?_push_of_some _ e)
    have I2 : Inv (gcxOf P w K mg base N qual scope f cdv Aw outer s H (fun _ _ _ => False) []) [] (start N vs) H s2 :=
      I1.call' (ch := []) (hos.trans os1.symm) (Un.kept kp2) (I1.hok.kept kp2) hba fun b z => by simp at z
    have hea : s2.heap.get? s1.heap.objs.size = some go := hk2 s1.heap.objs.size go hpushed
    have hgd : ∀ v, go.data ≠ .cell v := fun v q => by rw [hgd0] at q; cases q
    have I3 : Inv (gcxOf P w K mg base N qual scope f cdv Aw outer s H (fun _ _ _ => False) ((s1.heap.objs.size, go) :: ex)) [] (start N vs) H s2 := Inv.pinnedG I2 fun p hp => by
      rw [List.append_nil] at hp
      rcases List.mem_cons.mp hp with e | hp
      · rw [e]
        exact ⟨hea, I1.hok.fresh (Nat.le_refl _), Nat.ne_of_gt lt1, I1.nofs (Nat.le_refl _), hgd⟩
      · obtain ⟨z1, z2, z3⟩ := hex p hp
        have z1 : (s1.heap.push go).objs.size ≤ p.1 := z1
        rw [szp] at z1
        exact ⟨z2, I1.hok.fresh (by omega), Nat.ne_of_gt (Nat.lt_of_lt_of_le lt1 (by omega)), I1.nofs (by omega), z3⟩
    have bad : ∀ {Φ : End → Shared → Prop} {c : Code} {ev : Value} {s' : Shared}, (gcxOf P w K mg base N qual scope f cdv Aw outer s H (fun _ _ _ => False) ((s1.heap.objs.size, go) :: ex)).xe ev s' →
        SegF (model P w) Aw Φ (.func [st0, .For (.Name x px) e [.Expr (.Yield (some (.Name x px2)) yp) yq] [] fp] (envOfC qual scope s.heap.objs.size f cdv)) ((leaving (envOfC qual scope s.heap.objs.size f cdv) ev).wrap (fun _ => .raise ev) .raise id id) [] s' := by
      intro Φ c ev s' hxe
      refine sf_wrap ?_
      rw [over_func]
      exact wpAny_mono (show wpAny (model P w) (Aw.deeper (envOfC qual scope s.heap.objs.size f cdv)) (leaving (envOfC qual scope s.heap.objs.size f cdv) ev) (fun _ s'' => CX P w outer H s (fun _ _ _ => False) ev s'' ∧ ∀ p ∈ (s1.heap.objs.size, go) :: ex, s''.heap.get? p.1 = some p.2) (fun _ _ => False) s' from hxe) (fun _ s'' q => (cx_false q.1).elim) fun _ s'' q => q.elim
    refine sf_func (sf_execs_cons (sf_wrap ?_))
    rw [over_func]
    refine wpAny_mono (hS.run [] s2 _ H _ I3 hq) (fun fl s3 h3 => ?_) fun ev s' hxe => bad (c := .func [] (envOfC qual scope s.heap.objs.size f cdv)) hxe
    cases fl with
    | brk => obtain ⟨_, _, _, q⟩ := h3; exact q.elim
    | cont => obtain ⟨_, _, _, q⟩ := h3; exact q.elim
    | ret u => obtain ⟨_, _, _, _, _, q⟩ := h3; exact q.elim
    | next =>
      obtain ⟨σ, H1, J1, q1⟩ := h3
      refine sf_execs_cons (sf_For (hs _) ?_)
      rw [over_func]
      refine wpAny_mono (hE.run [] s3 σ H1 _ J1 q1) (fun v s4 h4 => ?_) fun ev s' hxe => bad (c := .func [] (envOfC qual scope s.heap.objs.size f cdv)) hxe
      obtain ⟨xv, H4, J4, r4, T, out, rfl, hT, q4⟩ := h4
      cases r4
      obtain ⟨its, rv, pl, _⟩ := J4.list hT
      have hq4 := J4.quiet
      obtain ⟨m4, n4, _⟩ := id J4.loc
      have hLlt := J4.lt
      have hTlt := pl.lt
      have hLT : s.heap.objs.size ≠ T := fun e => by
        obtain ⟨o, es, ep, ho, hdd, _⟩ := n4
        obtain ⟨o', n', ho', _, _, hd'⟩ := pl
        have ho2 : s4.heap.get? s.heap.objs.size = some o := ho
        rw [e, ho'] at ho2
        cases ho2
        rw [hd'] at hdd
        cases hdd
      refine wpAny_pyIter_list pl.isList fun p => ?_
      have push : ∀ b o, s4.heap.get? b = some o → (s4.heap.push { cls := .type "list_iterator", data := .fields #[.ref T, .int 0 0] }).get? b = some o := fun b o e => Heap.get?_push_of_some _ e
      have hA : (Aw.over (.forLoop (.Name x px) (.ref s4.heap.objs.size) [.Expr (.Yield (some (.Name x px2)) yp) yq] [] (envOfC qual scope s.heap.objs.size f cdv)) [.ret (fun r => (backFl (envOfC qual scope s.heap.objs.size f cdv) r).wrap (fun f' => match f' with | .next => (execs [] (envOfC qual scope s.heap.objs.size f cdv)).wrap (fun f => .pure (.done (.ret (match f with | .ret v => v | _ => .none)))) (fun e => (leaving (envOfC qual scope s.heap.objs.size f cdv) e).wrap (fun _ => .raise e) .raise id id) id id | f => .pure (.done (.ret (match f with | .ret v => v | _ => .none)))) (fun e => (leaving (envOfC qual scope s.heap.objs.size f cdv) e).wrap (fun _ => .raise e) .raise id id) id id) none false [] (.func [st0, .For (.Name x px) e [.Expr (.Yield (some (.Name x px2)) yp) yq] [] fp] (envOfC qual scope s.heap.objs.size f cdv)) p []]).handled = none := by
        rw [over_handled, over_func]
        exact hrw.hd
      have hEnd : ∀ (Φ : End → Shared → Prop) s', Φ (.ret (.ok (.ret .none))) s' → SegF (model P w) Aw Φ (.forLoop (.Name x px) (.ref s4.heap.objs.size) [.Expr (.Yield (some (.Name x px2)) yp) yq] [] (envOfC qual scope s.heap.objs.size f cdv)) (.pure (.again (.block [] (envOfC qual scope s.heap.objs.size f cdv)))) [.ret (fun r => (backFl (envOfC qual scope s.heap.objs.size f cdv) r).wrap (fun f' => match f' with | .next => (execs [] (envOfC qual scope s.heap.objs.size f cdv)).wrap (fun f => .pure (.done (.ret (match f with | .ret v => v | _ => .none)))) (fun e => (leaving (envOfC qual scope s.heap.objs.size f cdv) e).wrap (fun _ => .raise e) .raise id id) id id | f => .pure (.done (.ret (match f with | .ret v => v | _ => .none)))) (fun e => (leaving (envOfC qual scope s.heap.objs.size f cdv) e).wrap (fun _ => .raise e) .raise id id) id id) none false [] (.func [st0, .For (.Name x px) e [.Expr (.Yield (some (.Name x px2)) yp) yq] [] fp] (envOfC qual scope s.heap.objs.size f cdv)) p []] s' := fun Φ s' h => by
        refine sf_loopEnd ?_
        show SegF _ _ _ _ (leafOf (.ok (.ret .none))) [] s'
        exact sf_end (.ok (.ret .none)) h
      have hlen : its.length = out.length := rv.length.symm
      have ff : ∀ s', Step s.heap.objs.size s4.heap.objs.size { s4 with heap := s4.heap.push { cls := .type "list_iterator", data := .fields #[.ref T, .int 0 0] } } s' → FF P w outer H s s1.heap.objs.size s1.gens.size s.heap.objs.size ex (Q1 T out) H4 s' := fun s' hst => by
        obtain ⟨h', tk', rfl, hk⟩ := hst
        exact ff_step J4 hgen rfl rfl (fun b o hb e => hk b o hb (Nat.ne_of_lt (Heap.lt_size e)) (push b o e)) q4
      refine sf_loopTurn (env := envOfC qual scope s.heap.objs.size f cdv) (T := T) (items := its.toArray) (i := 0) hA S.kind hx hd S.co hq4 (Nat.ne_of_lt hTlt) (Nat.ne_of_lt hLlt) hLT (by rfl) (by rfl) ⟨⟨_, Heap.get?_push_size _ rfl, rfl, rfl⟩, pl.isList.at fun o e => push T o e, ⟨m4, n4.at' fun o e => push _ o e⟩⟩ (Nat.zero_le _) (fun s' e0 hst => hEnd _ s' (.inl ⟨rfl, T, H4, ?_⟩)) fun v s' l kk p2 hv hst pr2 hkap => .inr ?_
      · rw [List.size_toArray] at e0
        have eo : out = [] := List.length_eq_zero_iff.mp (by omega)
        rw [← eo]
        exact ff s' hst
      · have hv2 : its[0]? = some v := by simpa using hv
        have h0 := (List.getElem?_eq_some_iff.mp hv2).1
        refine ⟨v, false, l, kk, _, p2, _, T, s4.heap.objs.size, H4, out, its, rfl, quiet_of (by rfl), ff s' hst, hT, J4.hok.fresh (Nat.le_refl _), rv, hv2, Nat.ne_of_lt hTlt, Nat.ne_of_lt hLlt, hLT, ?_, J4.sz, fun p hp => ⟨Nat.ne_of_lt (Heap.lt_size (J4.pin p (List.mem_append_left _ (List.mem_cons_of_mem _ hp))).1), fun e => ?_⟩, pr2, ?_⟩
        · exact Nat.ne_of_lt (Heap.lt_size (J4.pin (s1.heap.objs.size, go) (List.mem_append_left _ List.mem_cons_self)).1)
        · have pn := (J4.pin p (List.mem_append_left _ (List.mem_cons_of_mem _ hp))).2.1
          rcases hT with h | ⟨o, _, _, hk, _⟩
          · rw [e] at pn
            rcases h with h | ⟨_, h⟩ <;> rw [pn] at h <;> cases h
          · have h2 := Heap.lt_size (J4.ok.mod.kin T o hk)
            have h3 : base.objs.size ≤ s.heap.objs.size := J4.ok.bsz
            have h4 : T < base.objs.size := h2
            have z1 : (s1.heap.push go).objs.size ≤ p.1 := (hex p hp).1
            rw [szp, e] at z1
            exact absurd (Nat.lt_of_lt_of_le h4 (Nat.le_trans h3 (Nat.le_trans (Nat.le_of_lt lt1) (Nat.le_trans (Nat.le_succ _) z1)))) (Nat.lt_irrefl _)
        · exact sleeps_loop hA S.kind hx hd S.co hq4 (Nat.ne_of_lt hTlt) (Nat.ne_of_lt hLlt) hLT (by rfl) (by rfl) hEnd _ _ _ (by rw [List.size_toArray]; omega) ⟨kk, l, p2, _, rfl, hkap⟩
  exact main _ _ _ _ rfl rfl rfl fun h => Heap.get?_push_size _ rfl
end Gz
set_option Elab.async false
set_option linter.all false
set_option maxRecDepth 100000
set_option maxHeartbeats 2000000
namespace Gz
open PySem PySem.Spec PyProof.Rows L2 GenW
section
variable {P : Program} {w : World} {K : PySem.W.Frag} {outer : List Env} {H H' : Hp} {s s1 s2 : Shared} {a : Addr} {g : Nat} {L it : Addr} {ex : List (Addr × Obj)} {Q1 : Hp → Prop}
/-- kept but for objects that the heap of the call did not know -/
theorem FF.keep (h : FF P w outer H s a g L ex Q1 H' s1) (ch : List Addr) (ho : s2.os = s1.os) (hg : AllBare s2.gens) (k : ∀ b o, b ∉ ch → s1.heap.get? b = some o → s2.heap.get? b = some o) (hc : ∀ b ∈ ch, s.heap.objs.size ≤ b ∧ H' b = none ∧ b ≠ a ∧ ∀ p ∈ ex, p.1 ≠ b) (hl : s2.heap.NoLimit) :
    FF P w outer H s a g L ex Q1 H' s2 := by
  have neC : ∀ b o, s.heap.get? b = some o → b ∉ ch := fun b o e hb => absurd (Nat.lt_of_lt_of_le (Heap.lt_size e) (hc b hb).1) (Nat.lt_irrefl _)
  have B := h.un
  refine ⟨ho.trans h.os, hg, ⟨fun b o e n hb hx => k b o (neC b o e) (B.keep b o e n hb hx), fun b o e n hb hx => ?_, B.free, fun b o e hx => ?_, B.tups, B.frzs, B.tbls⟩, fun b u e => ?_, h.nL, h.na, ?_, hl, fun p hp => ?_, h.q⟩
  · obtain ⟨sl, e1⟩ := B.slot b o e n hb hx
    exact ⟨sl, k b _ (neC b o e) e1⟩
  · obtain ⟨o', e1⟩ := B.there b o e hx
    exact ⟨o', k b o' (neC b o e) e1⟩
  · have nit : ∀ b u, H' b = some u → b ∉ ch := fun b u e z => by rw [(hc b z).2.1] at e; cases e
    refine (h.hok b u e).stay (fun c v hc y => k c v ?_ y) (fun _ q => q) fun _ _ q => q
    rcases hc with z | z
    · rw [z]; exact nit b u e
    · exact nit c _ z
  · obtain ⟨o, nm, qn, e, r⟩ := h.isg
    exact ⟨o, nm, qn, k a o (fun z => (hc a z).2.2.1 rfl) e, r⟩
  · exact ⟨k _ _ (fun z => (hc p.1 z).2.2.2 p hp rfl) (h.pin p hp).1, (h.pin p hp).2⟩
end
theorem limit_keep {h h' : Heap} (l : h.NoLimit) (k : ∀ o, h.get? cStatics = some o → h'.get? cStatics = some o) : h'.NoLimit := by
  obtain ⟨mc, hns, hnn⟩ := l
  exact ⟨mc, hns.at' k, hnn⟩
/-- asleep behind the i-th item: the list at S holds the first i -/
structure Half (P : Program) (w : World) (outer : List Env) (H : Hp) (sc : Shared) (a : Addr) (g : Nat) (L T it S : Addr) (Q1 : Addr → List V → Hp → Prop) (out : List V) (items : List Value) (H' : Hp) (i : Nat) (s : Shared) : Prop where
  ff : FF P w outer H sc a g L [] (Q1 T out) H' s
  list : ∃ acc c, s.heap.get? S = some (lstObj acc c) ∧ acc.toList = items.take i
  pr : Priv L T it items.toArray i s.heap
theorem goes_list {P : Program} {w : World} {outer : List Env} {H H' : Hp} {sc : Shared} {a : Addr} {g : Nat} {L T it S : Addr} {Q1 : Addr → List V → Hp → Prop} {out : List V} {items : List Value} {A : Around}
    (hv : Vals out items) (hlen : items.length ≤ sizeLine) (nS : H' S = none) (nit : H' it = none) (hL : sc.heap.objs.size ≤ L) (hit : sc.heap.objs.size ≤ it) (hS : sc.heap.objs.size ≤ S) (nL : H' L = none) (aL : L ≠ a) (ait : a ≠ it) (aS : a ≠ S) (SL : S ≠ L) (Sit : S ≠ it) (ST : S ≠ T) (cS : cStatics < sc.heap.objs.size) :
    ∀ m i gs n s, i + m = items.length → n + i = sizeLine → Sleeps (model P w) A L T it items.toArray m i gs → Half P w outer H sc a g L T it S Q1 out items H' i s →
      gs.Goes (model P w) A (REnd P w outer H sc [] S a g (fun ys H' => ∃ T, Q1 T ys H') fun _ _ _ => False) (YItem sc S a g) n (.send .none) s := by
  have step : ∀ {i : Nat} {s s1 : Shared}, Half P w outer H sc a g L T it S Q1 out items H' i s → Step L it s s1 → FF P w outer H sc a g L [] (Q1 T out) H' s1 ∧ (∃ acc c, s1.heap.get? S = some (lstObj acc c) ∧ acc.toList = items.take i) := fun {i s s1} hf ⟨h', tk, e, k⟩ => by
    subst e
    refine ⟨hf.ff.keep [L, it] rfl hf.ff.bare (fun b o hb e => k b o (fun z => hb (by simp [z])) (fun z => hb (by simp [z])) e) (fun b hb => ?_) (limit_keep hf.ff.lim fun o e => k _ o ?_ ?_ e), ?_⟩
    · simp only [List.mem_cons, List.not_mem_nil, or_false] at hb
      rcases hb with rfl | rfl
      · exact ⟨hL, nL, aL, fun _ h => (List.not_mem_nil h).elim⟩
      · exact ⟨hit, nit, Ne.symm ait, fun _ h => (List.not_mem_nil h).elim⟩
    · exact Nat.ne_of_lt (Nat.lt_of_lt_of_le cS hL)
    · exact Nat.ne_of_lt (Nat.lt_of_lt_of_le cS hit)
    · obtain ⟨acc, c, e, r⟩ := hf.list
      exact ⟨acc, c, k S _ SL Sit e, r⟩
  intro m
  induction m with
  | zero =>
    rintro i gs n s him hn ⟨k, l, c, p, fs, cl, rfl, hs⟩ hf
    show Seg _ _ _ _ n s c (k (.send .none)) fs s
    rw [seg_iff]
    refine (hs s hf.pr).mono fun e s1 ⟨ee, hst⟩ => ?_
    subst ee
    obtain ⟨ff, acc, c', eS, ra⟩ := step hf hst
    have hi : i = items.length := by omega
    rw [hi, List.take_length] at ra
    exact .inl ⟨.inl rfl, H', out, acc, c', ff.os, ff.bare, ff.un, ff.hok, nS, eS, by rw [ra]; exact hv, by rw [hv.length]; exact hlen, T, ff.q⟩
  | succ m ih =>
    rintro i gs n s him hn ⟨k, l, c, p, fs, cl, rfl, hs⟩ hf
    obtain ⟨n, rfl⟩ : ∃ n', n = n' + 1 := ⟨n - 1, by omega⟩
    show Seg _ _ _ _ (n + 1) s c (k (.send .none)) fs s
    rw [seg_iff]
    refine (hs s hf.pr).mono fun e s1 ⟨v, g', l', k', c', p', fs', ee, hqu, hvi, hst, pr1, hsl⟩ => ?_
    subst ee
    obtain ⟨ff, acc, ca, eS, ra⟩ := step hf hst
    have hil : i < items.length := by
      have := (Array.getElem?_eq_some_iff.mp hvi).1
      rwa [List.size_toArray] at this
    have hsz : acc.size = i := by
      have e1 : acc.toList.length = acc.size := by simp
      rw [← e1, ra, List.length_take]
      omega
    refine ⟨hqu, ff.os, ff.bare, ff.lim, ff.isg, ⟨acc, ca, eS, by omega⟩, fun s' z => ?_⟩
    have hv2 : items[i]? = some v := by simpa using hvi
    refine ih (i + 1) (End.genState (.susp v g' l' k' c' p' fs')) n s' (by omega) (by omega) hsl ⟨ff.keep [S] z.os z.bare (fun b o hb e => z.keep b o (fun q => hb (by simp [q])) e) (fun b hb => ?_) (limit_keep ff.lim fun o e => z.keep _ o (Nat.ne_of_lt (Nat.lt_of_lt_of_le cS hS)) e), ?_, ⟨pr1.iter.at fun o e => z.keep _ o (Ne.symm Sit) e, pr1.list.at fun o e => z.keep _ o (Ne.symm ST) e, ?_⟩⟩
    · rw [List.mem_singleton.mp hb]
      exact ⟨hS, nS, Ne.symm aS, fun _ h => (List.not_mem_nil h).elim⟩
    · obtain ⟨c2, e2⟩ := z.own acc ca eS
      exact ⟨acc.push v, c2, e2, by rw [Array.toList_push, ra, List.take_add_one, hv2]; rfl⟩
    · obtain ⟨mm, hn⟩ := pr1.ns
      exact ⟨mm, hn.at' fun o e => z.keep _ o (Ne.symm SL) e⟩
theorem gmade_of {P : Program} {w : World} {K : PySem.W.Frag} {k : Nat} {outer : List Env} {H : Hp} {sc s' : Shared} {Q1 : Addr → List V → Hp → Prop} {u : Value} (cS : cStatics < sc.heap.objs.size) (h : GMk P w K k outer H sc Q1 u s') (hbd : ∀ T ys H', Q1 T ys H' → ys.length ≤ sizeLine) :
    GMade P w k outer H sc [] (fun ys H' => ∃ T, Q1 T ys H') (fun _ _ _ => False) u s' := by
  obtain ⟨a, g, c, L, rfl, a1, a2, l1, l2, la, hg, hgs, hos, hb, hl, hk, hrun⟩ := h
  refine ⟨a, g, c, rfl, a1, a2, hg, hgs, hos, hb, hl, hk, fun A S s2 hr hfr hSx hk2 ⟨cS2, eS⟩ hos2 hba => ?_⟩
  rw [seg_iff]
  refine (hrun A [(S, lstObj #[] cS2)] s2 hr hfr hk2 hos2 hba (fun p hp => by rw [List.mem_singleton.mp hp]; exact ⟨hSx, eS, fun v q => by cases q⟩)).mono fun e s1 he => ?_
  rcases he with ⟨rfl, T, H', ff⟩ | ⟨v, g', l, k', c', p, fs, T, it, H', out, items, rfl, hqu, ff, hT, nit, hv, hv0, Tit, Lit, LT, ait, hit, hex, pr1, hsl⟩
  · obtain ⟨e1, n1⟩ := ff.pin (S, lstObj #[] cS2) (List.mem_singleton.mpr rfl)
    exact .inl ⟨.inl rfl, H', [], #[], cS2, ff.os, ff.bare, ff.un, ff.hok, n1, e1, .nil, Nat.zero_le _, T, ff.q⟩
  · obtain ⟨e1, n1⟩ := ff.pin (S, lstObj #[] cS2) (List.mem_singleton.mpr rfl)
    obtain ⟨Sit, ST⟩ := hex (S, lstObj #[] cS2) (List.mem_singleton.mpr rfl)
    have ff0 : FF P w outer H sc a g L [] (Q1 T out) H' s1 := ⟨ff.os, ff.bare, ff.un, ff.hok, ff.nL, ff.na, ff.isg, ff.lim, fun _ h => (List.not_mem_nil h).elim, ff.q⟩
    have hlen : items.length ≤ sizeLine := by
      rw [← hv.length]
      exact hbd _ _ _ ff.q
    have h0 : 0 < items.length := (List.getElem?_eq_some_iff.mp hv0).1
    have aS : a ≠ S := Nat.ne_of_lt (Nat.lt_of_lt_of_le a2 hSx)
    have LS : L ≠ S := Nat.ne_of_lt (Nat.lt_of_lt_of_le l2 hSx)
    have hS : sc.heap.objs.size ≤ S := Nat.le_trans (Nat.le_trans a1 (Nat.le_of_lt a2)) hSx
    obtain ⟨sl, hsle⟩ : ∃ n, sizeLine = n + 1 := ⟨sizeLine - 1, by have : 0 < sizeLine := Nat.lt_of_lt_of_le h0 hlen; omega⟩
    refine ⟨hqu, ff.os, ff.bare, ff.lim, ff.isg, ⟨#[], cS2, e1, by show sizeLine - 1 + 1 + 0 = sizeLine; omega⟩, fun s'' z => ?_⟩
    have go : Seg.next (model P w) A (REnd P w outer H sc [] S a g (fun ys H' => ∃ T, Q1 T ys H') fun _ _ _ => False) (YItem sc S a g) sizeLine c' (k' (.send .none)) fs s'' := by
      rw [hsle]
      show Seg _ _ _ _ sl s'' c' (k' (.send .none)) fs s''
      refine goes_list (T := T) (it := it) hv hlen n1 nit l1 hit hS ff.nL la ait aS (Ne.symm LS) Sit ST cS (items.length - 1) 1 (End.genState (.susp v g' l k' c' p fs)) sl s'' (by omega) (by omega) hsl ⟨ff0.keep [S] z.os z.bare (fun b o hb e => z.keep b o (fun q => hb (by simp [q])) e) (fun b hb => ?_) (limit_keep ff.lim fun o e => z.keep _ o (Nat.ne_of_lt (Nat.lt_of_lt_of_le cS hS)) e), ?_, ⟨pr1.iter.at fun o e => z.keep _ o (Ne.symm Sit) e, pr1.list.at fun o e => z.keep _ o (Ne.symm ST) e, ?_⟩⟩
      · rw [List.mem_singleton.mp hb]
        exact ⟨hS, n1, Ne.symm aS, fun _ h => (List.not_mem_nil h).elim⟩
      · obtain ⟨c2, e2⟩ := z.own #[] cS2 e1
        refine ⟨(#[] : Array Value).push v, c2, e2, ?_⟩
        rw [Array.toList_push]
        cases items with
        | nil => cases h0
        | cons x r =>
          cases hv0
          rfl
      · obtain ⟨mm, hn⟩ := pr1.ns
        exact ⟨mm, hn.at' fun o e => z.keep _ o LS e⟩
    exact go
end Gz
set_option Elab.async false
set_option linter.all false
set_option maxRecDepth 100000
set_option maxHeartbeats 2000000
namespace Dl
open PySem PySem.Spec PyProof.Rows L2 Gz
/-- a generator def's spec: from its arguments to all that it hands out -/
abbrev GSp := List D → List D → Prop
def liftG (K : PySem.W.Frag) (sp : GSp) : SpO := fun vs H Q1 => ∃ F ds od, Sat K ⟨F, H, []⟩ [] [] F [] H ∧ Reps K F vs ds ∧ sp ds od ∧ ∀ T out F' H' G σ, Sat K ⟨F, H, []⟩ G [] F' σ H' → Reps K F' out od → SqL K F' T out → Q1 T out H'
def GGenK (M : Mach) (x : Str) (ks : List Str) (k : Nat) (sp : GSp) : Prop := ∃ (f : Addr) (fd : FuncData) (ps : List Str), M.mg x = some (.ref f) ∧ PySem.W.keepIn M.K (.ref f) = true ∧ KBinds M.K fd ps ks (kwJoin ks) (kwJoin ks) ∧ GOk M.P M.w M.K M.mg M.base k f fd ps (liftG M.K sp)
theorem _root_.Gz.GOk.mono {P : Program} {w : World} {K : PySem.W.Frag} {mg : Str → Option Value} {base : Heap} {j k : Nat} {f : Addr} {fd : FuncData} {ps : List Str} {sp : SpO} (h : GOk P w K mg base j f fd ps sp) (l : j ≤ k) : GOk P w K mg base k f fd ps sp :=
  ⟨h.len, fun A outer s H args us vs Q1 hr e0 hb r q => codeAny_mono (h.run A outer s H args us vs Q1 (hr.mono l) e0 hb r q) fun r s' z => by
    cases r with
    | error e => exact z
    | ok fl =>
      cases fl with
      | ret u =>
        obtain ⟨a, g, c, L, h1, h2, h3, h4, h5, h6, h7, h8, h9, h10, h11, h12, h13⟩ := z
        exact ⟨a, g, c, L, h1, h2, h3, h4, h5, h6, h7, h8, h9, h10, h11, h12, fun A ex s2 hr2 => h13 A ex s2 (hr2.mono l)⟩
      | _ => exact z⟩
theorem GGenK.mono {M : Mach} {x : Str} {ks : List Str} {j k : Nat} {sp : GSp} (h : GGenK M x ks j sp) (l : j ≤ k) : GGenK M x ks k sp := by
  obtain ⟨f, fd, ps, h1, h2, h3, h4⟩ := h
  exact ⟨f, fd, ps, h1, h2, h3, h4.mono l⟩
/-- a generator def by its body -/
theorem gen_body {M : Mach} {x qual : Str} {st st0 : Stmt} {e : Expr} {y : Str} {px px2 yp yq fp : Pos} {f : Addr} {fd : FuncData} {N vn ps gl : List Str} {k : Nat} {sp : GSp} (F : Fun M.K x qual st f fd) (S : GScope N ps (defScope st)) (hst : defBody st = [st0, .For (.Name y px) e [.Expr (.Yield (some (.Name y px2)) yp) yq] [] fp])
    (hy : (defScope st).names.lookup y = some .local) (hd : (y == ("__debug__" : Str)) = false) (hs : ∀ env v, foldedSetIterable e env v = pure v) (hb : defB (defScope st) vn gl = true) (len : ∀ ds od, sp ds od → ds.length = ps.length)
    (body : ∀ (X : Cx) (B : Bs) (ds od : List D), Cxt M X N (defScope st) (fun x => vn.contains x) (fun x => vn.contains x) (fun x => gl.contains x) → Room k X.A → sp ds od → WS X B (startD N ds) [] st0 { nx := fun G' O' => G' = startD N ds ∧ O' = [], rt := fun _ _ => False } ∧ PEv X B (startD N ds) [] e (.lst od)) :
    GOk M.P M.w M.K M.mg M.base (k + 1) f fd ps (liftG M.K sp) := by
  unfold defB at hb
  rw [Bool.and_eq_true, List.all_eq_true, List.all_eq_true] at hb
  obtain ⟨hb1, hb2⟩ := hb
  obtain ⟨oc, od, kV, doc, pm, an, cdv, ct, osl, rfl, lk, hcd⟩ := F.ex
  rw [hst] at lk ⊢
  refine gok_of lk hcd S hy hd (fun vs H Q h => ?_) hs fun A outer s H vs Q1 pn hr h => ?_
  · obtain ⟨F0, ds, od, _, r, h, _⟩ := h
    rw [r.length]
    exact len _ _ h
  · obtain ⟨F0, ds, od, S0, rs, hsp, q1⟩ := h
    have hlen : vs.length = ds.length := rs.length
    have C : Cxt M (gcxOf M.P M.w M.K M.mg M.base N qual (defScope st) f cdv A outer s H (fun _ _ _ => False) pn) N (defScope st) (fun x => vn.contains x) (fun x => vn.contains x) (fun x => gl.contains x) := by
      refine ⟨rfl, rfl, rfl, S.kind, S.nd, rfl, owns_gcx, hr.units, fun y hy => ?_, fun y hy => ?_, fun y hy => ?_⟩
      · have z := hb1 y (contains_mem hy)
        rw [Bool.and_eq_true] at z
        exact vis_of z.1
      · have z := hb1 y (contains_mem hy)
        rw [Bool.and_eq_true] at z
        exact ⟨loc_of z.2, .inl rfl⟩
      · exact gl_of (hb2 y (contains_mem hy))
    obtain ⟨b1, b2⟩ := body _ ⟨F0, H, []⟩ ds od C hr hsp
    refine ⟨_, _, ps_sem, pe_sem, ?_⟩
    have S1 : Sat M.K ⟨F0, H, []⟩ (startD N ds) [] F0 (L2.start N vs) H := by
      refine ⟨?_, fun i d e => ?_, S0.ex, S0.nd, S0.own, S0.bF, S0.bH⟩
      · unfold L2.start startD
        rw [List.length_append, List.length_append, List.length_map, List.length_map, List.length_replicate, List.length_replicate, hlen]
      · unfold startD at e
        unfold L2.start
        by_cases hi : i < ds.length
        · rw [List.getElem?_append_left (by rw [List.length_map]; exact hi), List.getElem?_map] at e
          cases e2 : ds[i]? with
          | none => rw [e2] at e; cases e
          | some d' =>
            rw [e2] at e
            cases e
            obtain ⟨v, h1, h2⟩ := rs.get e2
            refine ⟨v, ?_, h2⟩
            rw [List.getElem?_append_left (by rw [List.length_map, hlen]; exact hi), List.getElem?_map, h1] <;> rfl
        · rw [List.getElem?_append_right (by rw [List.length_map]; omega), List.getElem?_replicate] at e
          split at e <;> cases e
    refine b1 F0 (L2.start N vs) H S1 _ ⟨fun G' O' F' σ' H' S' e' p => ?_, fun _ _ _ _ _ _ _ _ _ _ p => p.elim, fun _ _ _ _ _ _ _ p => p.elim, fun _ _ _ _ _ _ _ p => p.elim⟩
    obtain ⟨rfl, rfl⟩ := p
    refine b2 F' σ' H' S' _ fun v F2 H2 d O2 S2 e2 r2 p2 => ?_
    obtain ⟨rfl, rfl⟩ := p2
    cases r2 with
    | lst hq rs2 => exact ⟨_, _, rfl, S2.ex.seq hq, q1 _ _ F2 H2 _ σ' S2 rs2 hq⟩
theorem ggenK_mk {M : Mach} {x qual : Str} {st : Stmt} {f : Addr} {fd : FuncData} {ps ks : List Str} {k : Nat} {sp : GSp} (hm : M.mg x = some (.ref f)) (F : Fun M.K x qual st f fd) (b : KBinds M.K fd ps ks (kwJoin ks) (kwJoin ks)) (h : GOk M.P M.w M.K M.mg M.base k f fd ps (liftG M.K sp)) : GGenK M x ks k sp := ⟨f, fd, ps, hm, F.kp, b, h⟩
section
variable {X : Cx} {k : Nat} {f : Addr} {fd : FuncData} {ps ks : List Str} {sp : SpO} {x : Str} {p pos : Pos} {e : Expr} {es : List Expr} {kws : List Keyword} {t tk : TA} {g : List Value → List Value → List Value} {gV : List V → List V → List V}
/-- an expression that gives such a generator -/
structure PGk (X : Cx) (k : Nat) (e : Expr) (tg : L2.St → Hp → (Addr → List V → Hp → Prop) → Prop) : Prop where
  run : ∀ (pins : List (Addr × Obj)) (s : Shared) (σ : L2.St) (H : Hp) (cont : Addr → List V → Hp → Prop), Inv X pins σ H s → tg σ H cont → wpAny (model X.prog X.w) X.A (eval e X.env) (fun u s' => ∃ H1 sc, Inv X pins σ H1 sc ∧ GMk X.prog X.w X.K k X.stack H1 sc cont u s') X.xe s
def tGenK (sp : SpO) (gV : List V → List V → List V) (t tk : TA) : L2.St → Hp → (Addr → List V → Hp → Prop) → Prop := fun σ H cont => t σ H fun vs H1 => tk σ H1 fun zs H2 => sp (gV vs zs) H2 cont
theorem pgk_callK (F : GOk X.prog X.w X.K X.mg X.base k f fd ps sp) (hr : Room k X.A) (hg : Gl X x) (hm : X.mg x = some (.ref f)) (hk : PySem.W.keepIn X.K (.ref f) = true) (hb : KBinds X.K fd ps ks g gV)
    (ha : PA X (e :: es) t) (hkw : PK X kws tk) (hall : (backToKw pos (keywordEach kws X.env)).all (·.1.isSome) = true := by rfl) (hks : (backToKw pos (keywordEach kws X.env)).filterMap (·.1) = ks := by rfl)
    (hdb : (x == ("__debug__" : Str)) = false := by decide) (he : starEach (e :: es) X.env = (false, eval e X.env) :: starEach es X.env := by exact star_cons rfl)
    (hpl : ((backTo pos (starEach (e :: es) X.env)).any (·.1) || (backToKw pos (keywordEach kws X.env)).any (·.1.isNone)) = false := by rfl) :
    PGk X k (.Call (.Name x p) (e :: es) kws pos) (tGenK sp gV t tk) := by
  refine ⟨fun pins s σ H cont I h => ?_⟩
  refine wpAny_Call_Name_kw (ld_glob I hg hm ?_ hdb)
  refine PySem.W.callWith_KW (h₀ := X.base) I.ok.mod.kin hk hall (thn (ha.run pos pins s σ H _ I h) fun us s1 ⟨vs, H1, I1, r, q⟩ => ?_) hpl he
  refine thn (hkw.run pos pins s1 σ H1 _ I1 q) fun ws s2 ⟨zs, H2, I2, rz, q2⟩ => ⟨I2.kIn, ?_⟩
  rw [hks]
  have r2 := hb.rel r rz
  have hl : (g us ws).length = ps.length := by rw [← r2.length]; exact F.len _ _ _ q2
  refine wpAny_call (codeAny_mono (F.run X.A X.stack s2 H2 ⟨us, ks.zip ws⟩ (g us ws) (gV vs zs) cont hr I2.env0 (hb.to s2 us ws I2.kIn hl) r2 q2) fun r s' hq => ?_)
  cases r with
  | error e => exact False.elim hq
  | ok fl =>
    cases fl with
    | ret u => exact ⟨H2, s2, I2, hq⟩
    | next => exact False.elim hq
    | brk => exact False.elim hq
    | cont => exact False.elim hq
theorem PGk.pgen {tg : L2.St → Hp → (Addr → List V → Hp → Prop) → Prop} (h : PGk X k e tg) : PGen X k e (fun σ H cont => tg σ H fun _ out H' => out.length ≤ sizeLine ∧ cont out H') (fun _ _ _ => False) := ⟨fun pins s σ H cont I q =>
  thn (h.run pins s σ H _ I q) fun u s' ⟨H1, sc, I1, gm⟩ => by
    obtain ⟨mc, hn, _⟩ := I1.nolimit
    have z := gmade_of hn.lt gm fun T ys H' q => q.1
    refine ⟨H1, sc, [], I1, .nil, ?_⟩
    obtain ⟨a, g, c, z1, z2, z3, z4, z5, z6, z7, z8, z9, z10⟩ := z
    exact ⟨a, g, c, z1, z2, z3, z4, z5, z6, z7, z8, z9, fun A S s2 y1 y2 y3 y4 y5 y6 y7 => seg_imp (fun n s₀ r s hR => by
      rcases hR with ⟨e1, H', ys, acc, c, w1, w2, w3, w4, w5, w6, w7, w8, w9⟩ | hR
      · exact .inl ⟨e1, H', ys, acc, c, w1, w2, w3, w4, w5, w6, w7, w8, (by obtain ⟨_, z⟩ := w9; exact z.2)⟩
      · exact .inr hR) (fun n s₀ v s kap kap' hk hY => by
      obtain ⟨w1, w2, w3, w4, w5, w6⟩ := hY
      exact ⟨w1, w2, w3, w4, w5, fun s' z => hk _ _ (w6 s' z)⟩) sizeLine (z10 A S s2 y1 y2 y3 y4 y5 y6 y7)⟩⟩
end
section
variable {M : Mach} {X : Cx} {N : List Str} {sc : Scope} {vb lb gb : Str → Bool} {B : Bs} {G : Sl} {O : Own} {e : Expr} {es : List Expr} {pos p pos2 p2 : Pos} {x : Str} {k : Nat} {sp : GSp}
/-- what such a call asks behind its arguments -/
def GPost (sp : GSp) (Φ : List D → Own → Prop) (ds : List D) (O1 : Own) : Prop := ∃ od, sp ds od ∧ od.length ≤ 1000000 ∧ Φ od O1
theorem gpost_run {Φ : List D → Own → Prop} {F1 H1 : Hp} {σ : L2.St} {O1 : Own} {vs : List V} {ds : List D} {Q : Addr → List V → Hp → Prop} {K : PySem.W.Frag} (S1 : Sat K B G O1 F1 σ H1) (r1 : Reps K F1 vs ds) (p1 : GPost sp Φ ds O1)
    (k : ∀ T out F' H' od, Sat K B G O1 F' σ H' → Same F1 F' → Reps K F' out od → SqL K F' T out → od.length ≤ 1000000 → Φ od O1 → Q T out H') : liftG K sp vs H1 Q := by
  obtain ⟨od, h, hl, q⟩ := p1
  refine ⟨F1, ds, od, S1.part (O1 := []) (O2 := O1) (Gs := []) (τ := []) rfl (fun i d e => by simp at e), r1, h, fun T out F' H' G' σ' S' r' hT => ?_⟩
  exact k T out F' H' od (S1.frame (O1 := []) (O2 := O1) S') S'.bF r' hT hl q
/-- list(f(..)) of a generator def -/
theorem wn_listGen {ks : List Str} {kws : List Keyword} {Φ : List D → Own → Prop} (C : Cxt M X N sc vb lb gb) (f : GGenK M x ks k sp) (hr : Room (k + 3) X.A) (hg : gb x = true) (hm : M.mg "list" = none) (hl : gb "list" = true) (h : WA X B G O (e :: es) fun ds O1 => WK X B G O1 kws fun zs O2 => zs.length = ks.length ∧ GPost sp Φ (ds ++ zs) O2)
    (hall : (backToKw pos (keywordEach kws X.env)).all (·.1.isSome) = true := by rfl) (hks : (backToKw pos (keywordEach kws X.env)).filterMap (·.1) = ks := by rfl)
    (he : starEach (e :: es) X.env = (false, eval e X.env) :: starEach es X.env := by exact star_cons rfl) (hpl : ((backTo pos (starEach (e :: es) X.env)).any (·.1) || (backToKw pos (keywordEach kws X.env)).any (·.1.isNone)) = false := by rfl) :
    WN X B G O (.Call (.Name "list" p2) [.Call (.Name x p) (e :: es) kws pos] [] pos2) Φ := fun F σ H S Q kk => by
  obtain rfl := C.hM
  obtain ⟨f, fd, ps, h1, h2, h3, h4⟩ := f
  have hk : Room k X.A := hr.mono (Nat.le_add_right k 3)
  refine sem (pe_listG (pgk_callK h4 hk (C.gl x hg).1 h1 h2 h3 pa_sem pk_sem hall hks (C.gl x hg).2 he hpl).pgen (fun _ _ _ _ _ _ _ c => (cx_false c).elim) (fun _ _ _ z => z.elim) hr (C.gl _ hl).1 hm rfl (by decide) (C.gl _ hl).2 (star_cons rfl)) ?_
  refine h F σ H S _ fun vs F1 H1 ds O1 S1 e1 r1 p1 => ?_
  refine p1 F1 σ H1 S1 _ fun zs F2 H2 es O2 S2 e2 r2 ⟨pl, p2⟩ => ?_
  have ej : kwJoin ks vs zs = vs ++ zs := if_pos (by rw [r2.length, pl])
  rw [ej]
  refine gpost_run S2 ((r1.mono e2).append r2) p2 fun T out F' H' od S' e' r' _ hl' q' => ⟨?_, fun p' hp => ?_⟩
  · rw [r'.length]
    exact Nat.le_trans hl' (by decide)
  · exact kk p' od F' _ O2 (S'.allocOwn hp (ov := .lst od) ⟨out, upd_same, r'⟩) ((e1.trans e2).trans e') q'
end
end Dl
set_option Elab.async false
set_option linter.all false
set_option maxRecDepth 100000
set_option maxHeartbeats 2000000
namespace Gz
open PySem PySem.Spec PyProof.Rows L2 GenW
end Gz
set_option Elab.async false
set_option linter.all false
set_option maxRecDepth 100000
set_option maxHeartbeats 2000000
namespace Gz
open PySem PySem.Spec PyProof.Rows L2 GenW
end Gz
set_option Elab.async false
set_option linter.all false
set_option maxRecDepth 100000
set_option maxHeartbeats 2000000
namespace Dl
open PySem PySem.Spec PyProof.Rows L2 Gz
end Dl
set_option Elab.async false
set_option linter.all false
set_option maxRecDepth 100000
set_option maxHeartbeats 2000000
namespace Dl
open PySem PySem.Spec PyProof.Rows L2
section
variable {M : Mach} {X : Cx} {N : List Str} {sc : Scope} {vb lb gb : Str → Bool} {B : Bs} {G : Sl} {O : Own} {a : Expr} {pos p p1 p2 p3 : Pos} {d1 : D} {ds : List D}
theorem pn_rev {k : Nat} (ha : PEv X B G O a d1) (it : ItemsL O d1 ds) : PNv X B G O (.Subscript a (.Slice none none (some (.UnaryOp .USub (.Constant (.int 1) k p1) p2)) p3) pos) ds.reverse := fun F σ H S Q kk =>
  sem (pe_revL pe_sem) (ha F σ H S _ fun v F1 H1 d O1 S1 e1 r1 p1 => by
    obtain ⟨rfl, rfl⟩ := p1
    obtain ⟨l, vs, rfl, rs, hq⟩ := itemsL_ok S1 r1 it
    exact ⟨l, vs, rfl, hq, fun p hp => kk p _ F1 _ _ (S1.allocOwn hp (ov := .lst ds.reverse) ⟨vs.reverse, upd_same, rs.reverse⟩) e1 ⟨rfl, rfl⟩⟩)
end
end Dl
set_option Elab.async false
set_option linter.all false
set_option maxRecDepth 100000
set_option maxHeartbeats 2000000
namespace Gz
open PySem PySem.Spec PyProof.Rows L2 GenW
open Sem (wp)
end Gz
set_option Elab.async false
set_option linter.all false
set_option maxRecDepth 100000
set_option maxHeartbeats 2000000
namespace Gz
open PySem PySem.Spec PyProof.Rows L2 GenW
open Sem (wp)
end Gz
set_option Elab.async false
set_option linter.all false
set_option maxRecDepth 100000
set_option maxHeartbeats 2000000
namespace Gz
open PySem PySem.Spec PyProof.Rows L2 GenW
open Sem (wp)
end Gz
set_option Elab.async false
set_option linter.all false
set_option maxRecDepth 100000
set_option maxHeartbeats 2000000
namespace Gz
open PySem PySem.Spec PyProof.Rows L2 GenW
open Sem (wp)
end Gz
namespace Dl
open PySem PySem.Spec PyProof.Rows L2 Gz
end Dl
set_option Elab.async false
set_option linter.all false
set_option maxRecDepth 100000
set_option maxHeartbeats 2000000
namespace Dl
open PySem PySem.Spec PyProof.Rows L2 L2.DX
abbrev K4 := Int × Int × Int × Int
def lex4 (p q : K4) : Bool := if p.1 = q.1 then lex3 p.2 q.2 else decide (p.1 < q.1)
theorem lex4_iff {p q : K4} : lex4 p q = true ↔ p.1 < q.1 ∨ (p.1 = q.1 ∧ (p.2.1 < q.2.1 ∨ (p.2.1 = q.2.1 ∧ (p.2.2.1 < q.2.2.1 ∨ (p.2.2.1 = q.2.2.1 ∧ p.2.2.2 < q.2.2.2))))) := by
  unfold lex4
  by_cases c : p.1 = q.1
  · rw [if_pos c, lex3_iff]
    constructor
    · exact fun h => .inr ⟨c, h⟩
    · rintro (h | h)
      · omega
      · exact h.2
  · rw [if_neg c, decide_eq_true_iff]
    constructor
    · exact fun h => .inl h
    · rintro (h | h)
      · exact h
      · exact absurd h.1 c
theorem lex4_no {p q : K4} : lex4 p q = false ↔ ¬ (p.1 < q.1 ∨ (p.1 = q.1 ∧ (p.2.1 < q.2.1 ∨ (p.2.1 = q.2.1 ∧ (p.2.2.1 < q.2.2.1 ∨ (p.2.2.1 = q.2.2.1 ∧ p.2.2.2 < q.2.2.2)))))) := by
  rw [← lex4_iff, Bool.not_eq_true]
theorem swo_lex4 (k : Value → K4) : SrtO.Swo fun v u => lex4 (k v) (k u) := by
  refine ⟨fun x y h => ?_, fun x y z h1 h2 => ?_⟩
  · have a := lex4_iff.mp h
    refine lex4_no.mpr ?_
    omega
  · have a := lex4_no.mp h1
    have b := lex4_no.mp h2
    refine lex4_no.mpr ?_
    omega
def IsR4 (h : Heap) (v : Value) (k : K4) : Prop := ∃ a o t1 t2 t3 t4 r n, v = .ref a ∧ h.get? a = some o ∧ o.cls = .type "tuple" ∧ o.data = .seq #[.int k.1 t1, .int k.2.1 t2, .int k.2.2.1 t3, .int k.2.2.2 t4, r] n
theorem IsR4.keeps {h h' : Heap} {v : Value} {k : K4} (x : IsR4 h v k) (kp : ∀ b o, h.get? b = some o → o.cls = .type "tuple" → h'.get? b = some o) : IsR4 h' v k := by
  obtain ⟨a, o, t1, t2, t3, t4, r, n, e, ho, hc, hd⟩ := x
  exact ⟨a, o, t1, t2, t3, t4, r, n, e, kp _ _ ho hc, hc, hd⟩
theorem r4_firsts {h : Heap} {k : Value → K4} : ∀ {vs : List Value}, (∀ v ∈ vs, IsR4 h v (k v)) → ∃ fs : List Value, PySem.W.KatTups h vs fs ∧ fs.length = vs.length ∧ ∀ f ∈ fs, ∃ x t, f = Value.int x t
  | [], _ => ⟨[], PySem.W.KatTups.nil, rfl, fun _ hm => (List.not_mem_nil hm).elim⟩
  | v :: vs, hp => by
    obtain ⟨fs, f1, f2, f3⟩ := r4_firsts (vs := vs) fun u hu => hp u (List.mem_cons_of_mem _ hu)
    obtain ⟨a, o, t1, t2, t3, t4, r, n, e, ho, hc, hd⟩ := hp v List.mem_cons_self
    rw [e]
    refine ⟨.int _ t1 :: fs, PySem.W.KatTups.cons ho hc hd rfl f1, by rw [List.length_cons, List.length_cons, f2], fun f hf => ?_⟩
    rcases List.mem_cons.mp hf with z | hf
    · exact ⟨_, _, z⟩
    · exact f3 f hf
section
variable {prog : Program} {w : World} {A : Around} {s : Shared}
theorem r4_cmp {vs : List Value} {k : Value → K4} (hp : ∀ v ∈ vs, IsR4 s.heap v (k v)) (hu : ∀ v ∈ vs, ∀ u ∈ vs, k v = k u → v = u) : SrtO.Cmp prog w A s (tuples' true) (fun p => p.1 ∈ vs) (SrtO.lt2 fun v u => lex4 (k v) (k u)) := by
  intro p q hm hm'
  have h1 := hp _ hm
  have h2 := hp _ hm'
  have h3 := hu _ hm _ hm'
  show wpAny (model prog w) A (keyLt' (tuples' true) p.1 q.1) (fun r s' => s' = s ∧ r = lex4 (k p.1) (k q.1)) (fun _ _ => False) s
  generalize p.1 = v at h1 h3 ⊢
  generalize q.1 = u at h2 h3 ⊢
  generalize k v = kv at h1 h3 ⊢
  generalize k u = ku at h2 h3 ⊢
  obtain ⟨x, y, z, zz⟩ := kv
  obtain ⟨x', y', z', zz'⟩ := ku
  obtain ⟨a, o, t1, t2, t3, t4, r, n, e, ho, hc, hd⟩ := h1
  obtain ⟨a', o', t1', t2', t3', t4', r', n', e', ho', hc', hd'⟩ := h2
  rw [e, e'] at h3 ⊢
  dsimp only at hd hd'
  refine PySem.W.kat_lt ho hd ho' hd' ?_
  show PySem.W.KatLex prog w A true (decide (5 < 5)) _ [(.int x t1, .int x' t1'), (.int y t2, .int y' t2'), (.int z t3, .int z' t3'), (.int zz t4, .int zz' t4'), (r, r')] 0 s
  unfold lex4 lex3 SrtO.lexB
  dsimp only
  refine PySem.W.kat_cons (SeqAt.EqAt.int_int x t1 x' t1' prog w _ _ (PySem.W.kat_go (fun e1 => ?_) (fun e1 => ?_)))
  · have ex : x = x' := by simpa using e1
    rw [if_pos ex]
    refine PySem.W.kat_yes (PySem.W.kat_cons (SeqAt.EqAt.int_int y t2 y' t2' prog w _ _ (PySem.W.kat_go (fun e2 => ?_) (fun e2 => ?_))))
    · have ey : y = y' := by simpa using e2
      rw [if_pos ey]
      refine PySem.W.kat_yes (PySem.W.kat_cons (SeqAt.EqAt.int_int z t3 z' t3' prog w _ _ (PySem.W.kat_go (fun e3 => ?_) (fun e3 => ?_))))
      · have ez : z = z' := by simpa using e3
        rw [if_pos ez]
        refine PySem.W.kat_yes (PySem.W.kat_cons (SeqAt.EqAt.int_int zz t4 zz' t4' prog w _ _ (PySem.W.kat_go (fun e4 => ?_) (fun e4 => ?_))))
        · have ezz : zz = zz' := by simpa using e4
          subst ex ey ez ezz
          have ea : a = a' := by
            have := h3 rfl
            injection this
          subst ea
          rw [ho] at ho'
          cases ho'
          rw [hd] at hd'
          have er : r = r' := by
            injection hd' with hd1 hd2
            have := congrArg (fun v : Array Value => v.toList) hd1
            have this : t1 = t1' ∧ t2 = t2' ∧ t3 = t3' ∧ t4 = t4' ∧ r = r' := by simpa using this
            exact this.2.2.2.2
          subst er
          refine PySem.W.kat_yes (PySem.W.kat_cons (SeqAt.EqAt.same r prog w _ _ (PySem.W.kat_yes (PySem.W.kat_nil ⟨rfl, ?_⟩))))
          exact (decide_eq_false (Int.lt_irrefl _)).symm
        · exact PySem.W.kat_no (PySem.W.kat_one _ _ (PyProof.Rows.lt_int ⟨rfl, rfl⟩))
      · have ez : ¬ z = z' := by simpa using e3
        rw [if_neg ez]
        exact PySem.W.kat_no (PySem.W.kat_one _ _ (PyProof.Rows.lt_int ⟨rfl, rfl⟩))
    · have ey : ¬ y = y' := by simpa using e2
      rw [if_neg ey]
      exact PySem.W.kat_no (PySem.W.kat_one _ _ (PyProof.Rows.lt_int ⟨rfl, rfl⟩))
  · have ex : ¬ x = x' := by simpa using e1
    rw [if_neg ex]
    exact PySem.W.kat_no (oneLt_int ⟨rfl, rfl⟩)
theorem r4_sortable {a : Addr} {vs : List Value} {k : Value → K4} (h0 : 0 < vs.length) (hp : ∀ v ∈ vs, IsR4 s.heap v (k v)) (hu : ∀ v ∈ vs, ∀ u ∈ vs, k v = k u → v = u) (ha : ∀ o, s.heap.get? a = some o → o.cls ≠ .type "tuple") : SrtO.SortableO prog w A s a vs fun v u => lex4 (k v) (k u) := by
  intro h' keep
  have hp' : ∀ v ∈ vs, IsR4 h' v (k v) := fun v hm => (hp v hm).keeps fun b o e c => keep b o (fun z => by subst z; exact ha o e c) e
  obtain ⟨fs, f1, f2, f3⟩ := r4_firsts hp'
  refine ⟨tuples' true, fun Q E hq => ?_, r4_cmp hp' hu⟩
  refine PySem.W.kat_kind (T := .type "int") f1 (by omega) (fun f hm => ?_) (by rfl) ?_
  · obtain ⟨x, t, rfl⟩ := f3 f hm
    exact PySem.W.Looks.now
  · rw [show (Value.type "int" != Value.type "tuple") = true by first | rfl | decide +kernel]
    exact hq
end
def k4At (h : Heap) (v : Value) : K4 := match h.get? (adr v) with
  | some ⟨_, _, .seq its _, _⟩ => (match its.toList with
    | [.int i _, .int j _, .int l _, .int m _, _] => (i, j, l, m)
    | _ => (0, 0, 0, 0))
  | _ => (0, 0, 0, 0)
abbrev Z4 := Addr × K4 × V
def rSortR4 (K : PySem.W.Frag) : List V → Hp → VK → Prop := fun vs H Q => ∃ (a : Addr) (zs : List Z4), vs = [V.ref a] ∧ SqL K H a (zs.map fun z => V.ref z.1) ∧ (∀ z ∈ zs, SqT K H z.1 [.int z.2.1.1, .int z.2.1.2.1, .int z.2.1.2.2.1, .int z.2.1.2.2.2, z.2.2]) ∧ (zs.map fun z => z.2.1).Nodup ∧
  ∀ (ws : List Z4) p, ws.Perm zs → (ws.map fun z => z.2.1).Pairwise (fun e f => lex4 f e = false) → H p = none → Q (.ref p) (upd H p (.lst (ws.map fun z => V.ref z.1)))
section
variable {X : Cx}
theorem cr_sortedR4 : CallR X (.builtin "sorted") (rSortR4 X.K) := by
  intro pins s σ H vs us Q I r h
  obtain ⟨a, zs, rfl, hs, hx, hnd, q⟩ := h
  obtain ⟨its, rv, hl, hz⟩ := I.list hs
  obtain rfl := Vals.ref1 r
  have ei := addrs_of rv
  subst ei
  rw [List.length_map] at hz
  have pr : ∀ z ∈ zs, IsR4 s.heap (.ref z.1) z.2.1 ∧ k4At s.heap (.ref z.1) = z.2.1 := fun z hz => by
    obtain ⟨its2, r2, ⟨o, ho, hc, n, hd⟩, _⟩ := I.tuple (hx z hz)
    cases r2 with
    | cons ri r2 =>
      cases r2 with
      | cons rj r2 =>
        cases r2 with
        | cons rl r2 =>
          cases r2 with
          | cons rm r2 =>
            cases r2 with
            | cons rr r2 =>
              cases r2
              obtain ⟨t1, rfl⟩ := ri
              obtain ⟨t2, rfl⟩ := rj
              obtain ⟨t3, rfl⟩ := rl
              obtain ⟨t4, rfl⟩ := rm
              refine ⟨⟨z.1, o, t1, t2, t3, t4, _, n, rfl, ho, hc, hd⟩, ?_⟩
              unfold k4At adr
              rw [ho]
              obtain ⟨oc, od, dt, osl⟩ := o
              have hd : dt = _ := hd
              subst hd
              rfl
  -- the row at an address
  let back : Value → Z4 := fun v => ((zs.find? fun z => decide (z.1 = adr v)).getD (0, (0, 0, 0, 0), .non))
  have hk : ∀ z ∈ zs, ∀ y ∈ zs, z.1 = y.1 → z = y := fun z hz y hy e => nodup_key hnd z hz y hy (by rw [← (pr z hz).2, ← (pr y hy).2, e])
  have bk : ∀ z ∈ zs, back (.ref z.1) = z := fun z hz => by
    show (zs.find? fun y => decide (y.1 = z.1)).getD _ = z
    cases hf : zs.find? fun y => decide (y.1 = z.1) with
    | none =>
      have := List.find?_eq_none.mp hf z hz
      simp at this
    | some y =>
      have h1 := List.find?_some hf
      have h2 := List.mem_of_find?_eq_some hf
      exact (hk z hz y h2 (of_decide_eq_true h1).symm).symm
  refine SrtO.sorted_ord (swo_lex4 (k4At s.heap)) hl.isList (by rw [List.length_map]; exact hz) (fun l2 h₁ b hb kk => r4_sortable (k := k4At s.heap) (by omega) (fun v hv => ?_) (fun v hv u hu e => ?_) fun o e => ?_) fun out h1 h2 => ?_
  · obtain ⟨z, hz, rfl⟩ := List.mem_map.mp hv
    rw [(pr z hz).2]
    exact (pr z hz).1.keeps fun b o e _ => (kk b o e).2
  · obtain ⟨z, hz, rfl⟩ := List.mem_map.mp hv
    obtain ⟨y, hy, rfl⟩ := List.mem_map.mp hu
    rw [(pr z hz).2, (pr y hy).2] at e
    rw [nodup_key hnd z hz y hy e]
  · have e' : some o = some (seqObj "list" _ 0) := e.symm.trans hb
    cases e'
    exact fun c => absurd (Value.type.inj c) (by decide)
  · have mem : ∀ v ∈ out, ∃ z ∈ zs, v = Value.ref z.1 ∧ back v = z := fun v hv => by
      obtain ⟨z, hz, e⟩ := List.mem_map.mp (h2.perm.mem_iff.mp hv)
      exact ⟨z, hz, e.symm, by rw [← e]; exact bk z hz⟩
    have e1 : (out.map back).map (fun z => Value.ref z.1) = out := by
      rw [List.map_map]
      conv => rhs; rw [← List.map_id out]
      refine List.map_congr_left fun v hv => ?_
      obtain ⟨z, _, e, e2⟩ := mem v hv
      show Value.ref (back v).1 = v
      rw [e2, e]
    have e2 : (zs.map fun z => Value.ref z.1).map back = zs := by
      rw [List.map_map]
      conv => rhs; rw [← List.map_id zs]
      exact List.map_congr_left fun z hz => bk z hz
    have pm : (out.map back).Perm zs := by
      have := h2.perm.map back
      rw [e2] at this
      exact this
    have rv2 : Vals ((out.map back).map fun z => V.ref z.1) out := by
      conv => arg 2; rw [← e1]
      exact vals_addrs _
    obtain ⟨ep, he'⟩ := PyProof.Rows.sortedAll_at s.heap (zs.map fun z => Value.ref z.1) out.toArray
    refine ⟨.ref _, upd H (s.heap.objs.size + 1) (.lst ((out.map back).map fun z => V.ref z.1)), I.laid (t' := s.toks) (fun _ _ => PyProof.Rows.sortedAll_old) (Nat.le_succ _) ⟨?_, out, ep, rv2, he'⟩, rfl, q _ _ pm ?_ (I.hok.fresh (Nat.le_succ _))⟩
    · rw [List.length_map, pm.length_eq]
      exact hz
    · rw [List.map_map]
      refine List.pairwise_map.mpr (h1.imp_of_mem fun {x y} hx hy e => ?_)
      obtain ⟨z, hz, ez, bz⟩ := mem x hx
      obtain ⟨u, hu, eu, bu⟩ := mem y hy
      show lex4 (back y).2.1 (back x).2.1 = false
      rw [bz, bu, ← (pr z hz).2, ← (pr u hu).2, ← ez, ← eu]
      exact e
end
section
variable {M : Mach} {X : Cx} {N : List Str} {sc : Scope} {vb lb gb : Str → Bool} {B : Bs} {G : Sl} {O : Own} {a : Expr} {pos p : Pos} {d1 : D}
abbrev dR4 (q : K4 × D) : D := .tup [.int q.1.1, .int q.1.2.1, .int q.1.2.2.1, .int q.1.2.2.2, q.2]
theorem reps_rows4 {K : PySem.W.Frag} {F : Hp} : ∀ {tb : List (K4 × D)} {vs : List V}, Reps K F vs (tb.map dR4) → ∃ zs : List (Z4 × D), vs = (zs.map fun z => V.ref z.1.1) ∧ (zs.map fun z => (z.1.2.1, z.2)) = tb ∧ ∀ z ∈ zs, SqT K F z.1.1 [.int z.1.2.1.1, .int z.1.2.1.2.1, .int z.1.2.1.2.2.1, .int z.1.2.1.2.2.2, z.1.2.2] ∧ Rep K F z.1.2.2 z.2
  | [], _, .nil => ⟨[], rfl, rfl, fun _ h => (List.not_mem_nil h).elim⟩
  | q :: tb, _, .cons h r => by
    obtain ⟨zs, e1, e2, e3⟩ := reps_rows4 r
    cases h with
    | tup hq rs =>
      rename_i t xs
      cases rs with
      | cons a1 rs =>
        cases rs with
        | cons a2 rs =>
          cases rs with
          | cons a3 rs =>
            cases rs with
            | cons a4 rs =>
              cases rs with
              | cons a5 rs =>
                cases rs
                cases a1
                cases a2
                cases a3
                cases a4
                rename_i v5
                refine ⟨((t, q.1, v5), q.2) :: zs, by rw [List.map_cons, e1], by rw [List.map_cons, e2], fun z hz => ?_⟩
                rcases List.mem_cons.mp hz with e | hz
                · rw [e]; exact ⟨hq, a5⟩
                · exact e3 z hz
/-- sorted(xs), xs rows that begin with four ints -/
theorem wn_sortedRows4 {tb : List (K4 × D)} {Φ : List D → Own → Prop} (C : Cxt M X N sc vb lb gb) (hm : M.mg "sorted" = none) (hg : gb "sorted" = true) (ha : PEv X B G O a d1) (it : ItemsL O d1 (tb.map dR4)) (hnd : (tb.map (·.1)).Nodup) (h : ∀ out : List (K4 × D), out.Perm tb → (out.map (·.1)).Pairwise (fun e f => lex4 f e = false) → Φ (out.map dR4) O)
    (sa : Plain1 a := by exact fun _ _ => star_cons rfl) (hpl : (backTo pos (starEach [] X.env)).any (·.1) = false := by rfl) : WN X B G O (.Call (.Name "sorted" p) [a] [] pos) Φ := fun F σ H S Q k => by
  refine sem (pe_callB cr_sortedR4 (C.gl _ hg).1 (by rw [C.mg]; exact hm) (by rfl) (pa_cons pe_sem pa_nil (sa _ _)) (by decide) (C.gl _ hg).2 (sa _ _) hpl) ?_
  refine ha F σ H S _ fun v F1 H1 d O1 S1 e1 r1 p1 => ?_
  obtain ⟨rfl, rfl⟩ := p1
  obtain ⟨l, vs, rfl, rs, hq⟩ := itemsL_ok S1 r1 it
  obtain ⟨zs, z1, z2, z3⟩ := reps_rows4 rs
  subst z1
  have em : (zs.map fun z => V.ref z.1.1) = (zs.map (·.1)).map fun z => V.ref z.1 := by rw [List.map_map]; rfl
  rw [em] at hq
  refine ⟨l, zs.map (·.1), rfl, hq, fun z hz => ?_, ?_, fun ws q perm srt hp => ?_⟩
  · obtain ⟨y, hy, rfl⟩ := List.mem_map.mp hz
    exact sqT_mono S1.ex (z3 y hy).1
  · rw [List.map_map]
    rw [← z2, List.map_map] at hnd
    exact hnd
  · obtain ⟨as, pa, ea⟩ := perm_lift2 (fun z : Z4 × D => z.1) perm rfl
    subst ea
    have hd : Reps X.K F1 ((as.map fun z => z.1).map fun z => V.ref z.1) ((as.map fun z => (z.1.2.1, z.2)).map dR4) := by
      rw [List.map_map, List.map_map]
      exact reps_mk (fun z : Z4 × D => V.ref z.1.1) (fun z => dR4 (z.1.2.1, z.2)) as fun z hz => .tup (z3 z (pa.mem_iff.mp hz)).1 (.cons (.int _) (.cons (.int _) (.cons (.int _) (.cons (.int _) (.cons (z3 z (pa.mem_iff.mp hz)).2 .nil)))))
    refine k q _ F1 _ _ (S1.allocOwn hp (ov := .lst ((as.map fun z => (z.1.2.1, z.2)).map dR4)) ⟨_, upd_same, hd⟩) e1 (h _ ?_ ?_)
    · rw [← z2]
      exact pa.map _
    · rw [List.map_map]
      rw [List.map_map] at srt
      exact srt
end
end Dl
set_option Elab.async false
set_option linter.all false
set_option maxRecDepth 100000
set_option maxHeartbeats 2000000
namespace Dl
open PySem PySem.Spec PyProof.Rows L2
theorem cxUpN {P : Program} {w : World} : StX.CXUp (L2N.CX P w) := by
  rintro outer s H s2 H2 E e s' un kp ho ⟨a, B, H', cls, d, ea, fl, hok, ub, na, os, ag, he⟩
  refine ⟨a, B, H', cls, d, ea, fl, hok, ⟨fun b o q n hb => ub.keep b o (kp b o q) (un.free b o q n (by simp)) hb, fun b o q hb => ub.slot b o (kp b o q) hb, fun b o q n => ub.free b o (kp b o q) (un.free b o q n (by simp)),
    fun b o q hb => ub.there b o (kp b o q) hb, fun b xs q => ub.tups b xs (un.tups b xs q), fun b o xs q => ub.frzs b o xs (un.frzs b o xs q), fun b ps q => ?_⟩, na, os.trans ho, ag, he⟩
  obtain ⟨m1, e1⟩ := un.tbls b ps q
  obtain ⟨m2, e2⟩ := ub.tbls b _ e1
  exact ⟨m1 ++ m2, by rw [e2, Array.append_assoc]⟩
/-- the body of a def, walked over data, at the machine's level (the second half of fn_bodyC) -/
theorem body_run {M : Mach} {qual : Str} {st : Stmt} {f : Addr} {fd : FuncData} {N vn ps gl : List Str} {k : Nat} {sp : DSp} (S : FnScope N ps (defScope st)) (hb : defB (defScope st) vn gl = true)
    (body : ∀ (X : Cx) (B : Bs) (ds : List D) (O : Own) (Φ : D → Own → Prop) (Ψ : XD → Own → Prop), Body M X B N vn gl (defScope st) k Ψ → (∃ L, X.env = envOfC qual (defScope st) L f fd.code) → sp ds O Φ Ψ → WSs X B (startD N ds) O (defBody st) (EndsD.fn Φ))
    (cdv : Value) (hcd : fd.code = cdv) (A : Around) (outer : List Env) (s : Shared) (H : Hp) (vs : List V) (Q : VK) (E : XK) (hr : Room k (A.deeper (envOfC qual (defScope st) s.heap.objs.size f cdv))) (h : liftSp M.K sp vs H Q E) :
    ∃ t, PSs (cxOf (L2N.CX M.P M.w) M.P M.w M.K M.mg M.base N qual (defScope st) f cdv A outer s H E) (defBody st) t ∧ t { nx := fun _ H' => Q .non H', rt := Q } (L2.start N vs) H := by
  unfold defB at hb
  rw [Bool.and_eq_true, List.all_eq_true, List.all_eq_true] at hb
  obtain ⟨hb1, hb2⟩ := hb
  obtain ⟨F0, O, ds, Φ, Ψ, S0, rs, hs, q1, q2⟩ := h
  have hlen : vs.length = ds.length := rs.length
  have bd : Body M (cxOf (L2N.CX M.P M.w) M.P M.w M.K M.mg M.base N qual (defScope st) f cdv A outer s H E) ⟨F0, H, keys O⟩ N vn gl (defScope st) k Ψ := by
    refine ⟨⟨rfl, rfl, rfl, S.kind, S.nd, rfl, passes_of rfl, hr.units, fun y hy => ?_, fun y hy => ?_, fun y hy => ?_⟩, hr, ?_, rfl, rfl⟩
    · have z := hb1 y (contains_mem hy)
      rw [Bool.and_eq_true] at z
      exact vis_of z.1
    · have z := hb1 y (contains_mem hy)
      rw [Bool.and_eq_true] at z
      exact ⟨loc_of z.2, .inl rfl⟩
    · exact gl_of (hb2 y (contains_mem hy))
    · refine (L2N.takes_of rfl rfl rfl rfl).imp fun cls dd σ H' w => ?_
      obtain ⟨y, G, O', F', S', xr, w⟩ := w
      exact q2 cls dd F' H' y O' G σ S' xr w
  refine ⟨_, pss_sem, ?_⟩
  refine body _ _ ds O Φ Ψ bd ⟨s.heap.objs.size, by rw [hcd]; rfl⟩ hs F0 (L2.start N vs) H ⟨?_, fun i d e => ?_, S0.ex, S0.nd, S0.own, S0.bF, S0.bH⟩ _ ⟨fun G' O' F' σ' H' S' e' p => q1 .non F' H' .non O' G' σ' S' .non p, fun G' O' F' σ' H' v d S' e' r' p => q1 v F' H' d O' G' σ' S' r' p, fun _ _ _ _ _ _ _ p => p.elim, fun _ _ _ _ _ _ _ p => p.elim⟩
  · unfold L2.start startD
    rw [List.length_append, List.length_append, List.length_map, List.length_map, List.length_replicate, List.length_replicate, hlen]
  · unfold startD at e
    unfold L2.start
    by_cases hi : i < ds.length
    · rw [List.getElem?_append_left (by rw [List.length_map]; exact hi), List.getElem?_map] at e
      cases e2 : ds[i]? with
      | none => rw [e2] at e; cases e
      | some d' =>
        rw [e2] at e
        cases e
        obtain ⟨v, h1, h2⟩ := rs.get e2
        refine ⟨v, ?_, h2⟩
        rw [List.getElem?_append_left (by rw [List.length_map, hlen]; exact hi), List.getElem?_map, h1] <;> rfl
    · rw [List.getElem?_append_right (by rw [List.length_map]; omega), List.getElem?_replicate] at e
      split at e <;> cases e
/-- what is promised: ahead n by place, behind them the keywords' values, last the tuple of all that is left over -/
def liftSt (K : PySem.W.Frag) (sp : DSp) (n : Nat) (vs zs : List V) (H : Hp) (Q : VK) (E : XK) : Prop := ∃ F O ds es Φ Ψ, Sat K ⟨F, H, keys O⟩ [] O F [] H ∧ Reps K F vs ds ∧ Reps K F zs es ∧ sp (ds.take n ++ es ++ [.tup (ds.drop n)]) O Φ Ψ ∧
  (∀ v F' H' d O' G σ, Sat K ⟨F, H, keys O⟩ G O' F' σ H' → Rep K F' v d → Φ d O' → Q v H') ∧ (∀ cls dd F' H' x O' G σ, Sat K ⟨F, H, keys O⟩ G O' F' σ H' → XRep K F' x cls dd → Ψ x O' → E cls dd H')
theorem reps_take {K : PySem.W.Frag} {F : Hp} : ∀ {vs : List V} {ds : List D} (n : Nat), Reps K F vs ds → Reps K F (vs.take n) (ds.take n)
  | _, _, 0, _ => .nil
  | _, _, _ + 1, .nil => .nil
  | _, _, n + 1, .cons a r => .cons a (reps_take n r)
theorem reps_drop {K : PySem.W.Frag} {F : Hp} : ∀ {vs : List V} {ds : List D} (n : Nat), Reps K F vs ds → Reps K F (vs.drop n) (ds.drop n)
  | _, _, 0, r => r
  | _, _, _ + 1, .nil => .nil
  | _, _, n + 1, .cons _ r => reps_drop n r
theorem liftSt_sp {K : PySem.W.Frag} {sp : DSp} {n : Nat} {vs zs : List V} {H : Hp} {Q : VK} {E : XK} (h : liftSt K sp n vs zs H Q E) {p : Addr} (hp : H p = none) : liftSp K sp (vs.take n ++ zs ++ [.ref p]) (upd H p (.tup (vs.drop n))) Q E := by
  obtain ⟨F, O, ds, es, Φ, Ψ, S, r1, r2, hs, q1, q2⟩ := h
  have fr := S.fresh hp
  have S2 := S.alloc hp (.tup (vs.drop n))
  have e2 : Same F (upd F p (.tup (vs.drop n))) := same_upd fr.1
  have up : ∀ {G : Sl} {O' : Own} {F' : Hp} {σ : L2.St} {H' : Hp}, Sat K ⟨upd F p (.tup (vs.drop n)), upd H p (.tup (vs.drop n)), keys O⟩ G O' F' σ H' → Sat K ⟨F, H, keys O⟩ G O' F' σ H' := fun {G O' F' σ H'} T =>
    ⟨T.len, T.slot, T.ex, T.nd, T.own, e2.trans T.bF, fun a o e1 e3 e4 => by
      have ne : a ≠ p := fun z => by
        have e1 : H a = some o := e1
        rw [z, hp] at e1
        cases e1
      have e1 : H a = some o := e1
      have e3 : F a = none := e3
      exact T.bH a o (by show upd H p _ a = _; rw [upd_ne ne]; exact e1) (by show upd F p _ a = _; rw [upd_ne ne]; exact e3) e4⟩
  refine ⟨_, O, ds.take n ++ es ++ [.tup (ds.drop n)], Φ, Ψ, ⟨S2.len, S2.slot, S2.ex, S2.nd, S2.own, Same.refl _, fun a o e1 e3 e4 => ⟨e1, e3, e4⟩⟩, (((reps_take n r1).mono e2).append (r2.mono e2)).append (.cons (.tup (SqT.of upd_same) ((reps_drop n r1).mono e2)) .nil), hs, fun v F' H' d O' G σ T => q1 v F' H' d O' G σ (up T), fun cls dd F' H' x O' G σ T => q2 cls dd F' H' x O' G σ (up T)⟩
/-- a def with a star parameter behind n others, with the keywords ks -/
def StOk (M : Mach) (k : Nat) (f : Addr) (n : Nat) (ks : List Str) (sp : DSp) : Prop :=
  ∀ (A : Around) (outer : List Env) (s : Shared) (H : Hp) (us ws : List Value) (vs zs : List V) (Q : VK) (E : XK), Room k A → Env0 M.P M.w M.K M.mg M.base A outer s H → Vals vs us → Vals zs ws → n ≤ us.length → ws.length = ks.length → us.length ≤ sizeLine → liftSt M.K sp n vs zs H Q E →
    codeAny (model M.P M.w) A (.call (.ref f) ⟨us, ks.zip ws⟩) (CR (L2N.CX M.P M.w) outer M.P M.w H s Q E) s
theorem StOk.mono {M : Mach} {j k : Nat} {f : Addr} {n : Nat} {ks : List Str} {sp : DSp} (h : StOk M j f n ks sp) (l : j ≤ k) : StOk M k f n ks sp := fun A outer s H us ws vs zs Q E hr => h A outer s H us ws vs zs Q E (hr.mono l)
theorem vals_take : ∀ {vs : List V} {us : List Value} (n : Nat), Vals vs us → Vals (vs.take n) (us.take n)
  | _, _, 0, _ => .nil
  | _, _, _ + 1, .nil => .nil
  | _, _, n + 1, .cons a r => .cons a (vals_take n r)
theorem vals_drop : ∀ {vs : List V} {us : List Value} (n : Nat), Vals vs us → Vals (vs.drop n) (us.drop n)
  | _, _, 0, r => r
  | _, _, _ + 1, .nil => .nil
  | _, _, n + 1, .cons _ r => vals_drop n r
/-- .. by its body -/
theorem star_body {M : Mach} {x qual : Str} {st : Stmt} {f : Addr} {fd : FuncData} {N vn ps ks gl : List Str} {pv : Str} {k n : Nat} {sp : DSp} (F : Fun M.K x qual st f fd) (S : FnScope N (ps ++ ks ++ [pv]) (defScope st)) (hn : ps.length = n) (hb : defB (defScope st) vn gl = true)
    (hbind : ∀ us ws rest : List Value, us.length = n → ws.length = ks.length → bindArgs fd ⟨us ++ rest, ks.zip ws⟩ = (newTuple rest >>= fun t => pure (ps.zip us ++ ks.zip ws ++ [(pv, t)])))
    (body : ∀ (X : Cx) (B : Bs) (ds : List D) (O : Own) (Φ : D → Own → Prop) (Ψ : XD → Own → Prop), Body M X B N vn gl (defScope st) k Ψ → sp ds O Φ Ψ → WSs X B (startD N ds) O (defBody st) (EndsD.fn Φ)) :
    StOk M (k + 1) f n ks sp := by
  intro A outer s H us ws vs zs Q E hr e0 r rz hnu hws hz h
  obtain ⟨oc, od, kV, doc, pm, an, cdv, ct, osl, efd, lk, hcd⟩ := F.ex
  have hnH : H s.heap.objs.size = none := e0.hok.fresh (Nat.le_refl _)
  have r1 := vals_take n r
  have r2 := vals_drop n r
  have hl1 : (us.take n).length = n := by rw [List.length_take]; omega
  have hl2 : (us.drop n).length ≤ sizeLine := by rw [List.length_drop]; omega
  have eus : us.take n ++ us.drop n = us := List.take_append_drop n us
  have hcode : fd.code = cdv := by rw [efd] <;> rfl
  rw [efd] at lk hbind
  refine StX.run_bnd (CX := L2N.CX M.P M.w) lk hcd S hr e0 (G := fun xs H2 => ∃ p, H p = none ∧ xs = vs.take n ++ zs ++ [V.ref p] ∧ H2 = upd H p (.tup (vs.drop n))) (fun A' Ex Q' hq => ?_) fun s2 H2 xs ⟨p, hp, ex, eH⟩ hr' => ?_
  · have hbb := hbind (us.take n) ws (us.drop n) hl1 hws
    rw [eus] at hbb
    rw [hbb]
    refine wpAny_bind (wpAny_newTuple (wpAny_pure ?_) hl2)
    have new : ObjOk M.P M.w (upd H s.heap.objs.size (.tup (vs.drop n))) (s.heap.push ({ cls := .type "tuple", data := .seq (us.drop n).toArray } : Obj)) s.heap.objs.size (.tup (vs.drop n)) := ⟨by rw [r2.length]; exact hl2, us.drop n, r2, ⟨_, Heap.get?_push_size _ rfl, rfl, _, rfl⟩⟩
    have un := StX.un_laid (fs := frs outer) (s := s) (o := ({ cls := .type "tuple", data := .seq (us.drop n).toArray } : Obj)) (u := .tup (vs.drop n)) hnH
    have z := hq _ _ (vs.take n ++ zs ++ [V.ref s.heap.objs.size]) (us.take n ++ ws ++ [Value.ref s.heap.objs.size]) (StX.env0_laid e0 new) un rfl (fun e s' => cxUpN outer s H _ _ E e s' un (fun b o q => Heap.get?_push_of_some _ q) rfl) ((r1.append rz).append (.cons rfl .nil))
      (by rw [List.length_append, List.length_append, List.length_append, List.length_append, r1.length, rz.length, hl1, hws, hn] <;> rfl) ⟨_, hnH, rfl, rfl⟩
    rw [List.zip_append (by rw [List.length_append, List.length_append, hl1, hws, hn]), List.zip_append (by rw [hl1, hn])] at z
    exact z
  · subst ex eH
    exact body_run S hb (fun X B ds O Φ Ψ bd _ h => body X B ds O Φ Ψ bd h) cdv hcode A outer s2 _ _ Q E hr' (liftSt_sp h hp)
/-- the def x of the module with a star parameter -/
def GSt (M : Mach) (x : Str) (n : Nat) (ks : List Str) (k : Nat) (sp : DSp) : Prop := ∃ f : Addr, M.mg x = some (.ref f) ∧ PySem.W.keepIn M.K (.ref f) = true ∧ StOk M k f n ks sp
theorem GSt.mono {M : Mach} {x : Str} {n : Nat} {ks : List Str} {j k : Nat} {sp : DSp} (h : GSt M x n ks j sp) (l : j ≤ k) : GSt M x n ks k sp := by
  obtain ⟨f, h1, h2, h3⟩ := h
  exact ⟨f, h1, h2, h3.mono l⟩
theorem gst_mk {M : Mach} {x qual : Str} {st : Stmt} {f : Addr} {fd : FuncData} {n : Nat} {ks : List Str} {k : Nat} {sp : DSp} (hm : M.mg x = some (.ref f)) (F : Fun M.K x qual st f fd) (h : StOk M k f n ks sp) : GSt M x n ks k sp := ⟨f, hm, F.kp, h⟩
end Dl
set_option Elab.async false
set_option linter.all false
set_option maxRecDepth 100000
set_option maxHeartbeats 2000000
namespace Dl
open PySem PySem.Spec PyProof.Rows L2
section
variable {M : Mach} {X : Cx} {k n : Nat} {f : Addr} {ks : List Str} {sp : DSp} {E : L2.St → XK} {x : Str} {p pos : Pos} {e : Expr} {es : List Expr} {kws : List Keyword} {t tk : TA}
def tCallSt (K : PySem.W.Frag) (sp : DSp) (n : Nat) (ks : List Str) (E : L2.St → XK) (t tk : TA) : TE := fun σ H Q => t σ H fun vs H1 => tk σ H1 fun zs H2 => n ≤ vs.length ∧ zs.length = ks.length ∧ vs.length ≤ sizeLine ∧ liftSt K sp n vs zs H2 Q (E σ)
theorem run_st {pins : List (Addr × Obj)} {σ : L2.St} {H : Hp} {s : Shared} {Q : VK} {us ws : List Value} {vs zs : List V} (F : StOk ⟨X.prog, X.w, X.K, X.mg, X.base⟩ k f n ks sp) (hr : Room k X.A) (hx : PassesAt (L2N.CX X.prog X.w) X σ (E σ))
    (I : Inv X pins σ H s) (r : Vals vs us) (rz : Vals zs ws) (h1 : n ≤ vs.length) (h2 : zs.length = ks.length) (h3 : vs.length ≤ sizeLine) (h : liftSt X.K sp n vs zs H Q (E σ)) : wpAny (model X.prog X.w) X.A (call (.ref f) us (ks.zip ws)) (EP X pins σ Q) X.xe s := by
  refine wpAny_call (codeAny_mono (F X.A X.stack s H us ws vs zs Q (E σ) hr I.env0 r rz (by rw [← r.length]; exact h1) (by rw [← rz.length]; exact h2) (by rw [← r.length]; exact h3) h) fun r s' hq => ?_)
  cases r with
  | error e => exact hx pins H s e s' I hq
  | ok fl =>
    cases fl with
    | ret u => exact I.after hq
    | next => exact False.elim hq
    | brk => exact False.elim hq
    | cont => exact False.elim hq
theorem pe_callSt (F : StOk ⟨X.prog, X.w, X.K, X.mg, X.base⟩ k f n ks sp) (hr : Room k X.A) (hg : Gl X x) (hm : X.mg x = some (.ref f)) (hk : PySem.W.keepIn X.K (.ref f) = true) (hx : ∀ σ, PassesAt (L2N.CX X.prog X.w) X σ (E σ))
    (ha : PA X (e :: es) t) (hkw : PK X kws tk) (hall : (backToKw pos (keywordEach kws X.env)).all (·.1.isSome) = true := by rfl) (hks : (backToKw pos (keywordEach kws X.env)).filterMap (·.1) = ks := by rfl)
    (hdb : (x == ("__debug__" : Str)) = false := by decide) (he : starEach (e :: es) X.env = (false, eval e X.env) :: starEach es X.env := by exact star_cons rfl)
    (hpl : ((backTo pos (starEach (e :: es) X.env)).any (·.1) || (backToKw pos (keywordEach kws X.env)).any (·.1.isNone)) = false := by rfl) :
    PE X (.Call (.Name x p) (e :: es) kws pos) (tCallSt X.K sp n ks E t tk) := by
  refine ⟨fun pins s σ H Q I h => ?_⟩
  refine wpAny_Call_Name_kw (ld_glob I hg hm ?_ hdb)
  refine PySem.W.callWith_KW (h₀ := X.base) I.ok.mod.kin hk hall (thn (ha.run pos pins s σ H _ I h) fun us s1 ⟨vs, H1, I1, r, q⟩ => ?_) hpl he
  refine thn (hkw.run pos pins s1 σ H1 _ I1 q) fun ws s2 ⟨zs, H2, I2, rz, q1, q2, q3, q4⟩ => ⟨I2.kIn, ?_⟩
  rw [hks]
  exact run_st F hr (hx σ) I2 r rz q1 q2 q3 q4
end
section
variable {M : Mach} {X : Cx} {N : List Str} {sc : Scope} {vb lb gb : Str → Bool} {B : Bs} {G : Sl} {O : Own} {e : Expr} {es : List Expr} {pos p : Pos} {x : Str} {k n : Nat} {ks : List Str} {sp : DSp} {Ψ : Xk}
theorem post_st {Φ : D → Own → Prop} {F1 H1 : Hp} {σ : L2.St} {O1 : Own} {vs zs : List V} {ds es : List D} {Q : VK} {K : PySem.W.Frag} (S1 : Sat K B G O1 F1 σ H1) (r1 : Reps K F1 vs ds) (r2 : Reps K F1 zs es) (p1 : DPost sp G Φ Ψ (ds.take n ++ es ++ [.tup (ds.drop n)]) O1)
    (k : ∀ v F' H' d O', Sat K B G O' F' σ H' → Same F1 F' → Rep K F' v d → Φ d O' → Q v H') : liftSt K sp n vs zs H1 Q (fun cls dd H => wD K B Ψ cls dd σ H) := by
  obtain ⟨Oa, Ob, hp, h⟩ := p1
  have S2 := S1.perm hp
  refine ⟨F1, Oa, ds, es, _, _, S2.part (Gs := []) (τ := []) rfl (fun i d e => by simp at e), r1, r2, h, fun v F' H' d O' G' σ' S' r' q' => ?_, fun cls dd F' H' y O' G' σ' S' xr q' => ?_⟩
  · exact k v F' H' d (O' ++ Ob) (S2.frame S') S'.bF r' q'
  · exact ⟨y, G, O' ++ Ob, F', S2.frame S', xr, q'⟩
/-- x(a, .., *..) -/
theorem we_callSt {kws : List Keyword} {Φ : D → Own → Prop} (C : Cxt M X N sc vb lb gb) (f : GSt M x n ks k sp) (hr : Room k X.A) (tk : L2N.Takes X (wD X.K B Ψ)) (hg : gb x = true)
    (h : WA X B G O (e :: es) fun ds O1 => WK X B G O1 kws fun zs O2 => n ≤ ds.length ∧ zs.length = ks.length ∧ ds.length ≤ 1000000 ∧ DPost sp G Φ Ψ (ds.take n ++ zs ++ [.tup (ds.drop n)]) O2)
    (hall : (backToKw pos (keywordEach kws X.env)).all (·.1.isSome) = true := by rfl) (hks : (backToKw pos (keywordEach kws X.env)).filterMap (·.1) = ks := by rfl)
    (he : starEach (e :: es) X.env = (false, eval e X.env) :: starEach es X.env := by exact star_cons rfl) (hpl : ((backTo pos (starEach (e :: es) X.env)).any (·.1) || (backToKw pos (keywordEach kws X.env)).any (·.1.isNone)) = false := by rfl) : WE X B G O (.Call (.Name x p) (e :: es) kws pos) Φ := fun F σ H S Q kk => by
  obtain rfl := C.hM
  obtain ⟨f, h1, h2, h4⟩ := f
  refine sem (pe_callSt (E := fun σ cls dd H => wD X.K B Ψ cls dd σ H) h4 hr (C.gl x hg).1 h1 h2 (fun σ => L2N.passAt tk σ) pa_sem pk_sem hall hks (C.gl x hg).2 he hpl) ?_
  refine h F σ H S _ fun vs F1 H1 ds O1 S1 e1 r1 p1 => ?_
  refine p1 F1 σ H1 S1 _ fun zs F2 H2 es2 O2 S2 e2 r2 ⟨a1, a2, a3, p2⟩ => ⟨by rw [r1.length]; exact a1, by rw [r2.length]; exact a2, by rw [r1.length]; exact len_line a3, ?_⟩
  exact post_st S2 (r1.mono e2) r2 p2 fun v F' H' d O' S' e' r' q' => kk v F' H' d O' S' ((e1.trans e2).trans e') r' q'
/-- x() -/
theorem we_callSt0 {Φ : D → Own → Prop} (C : Cxt M X N sc vb lb gb) (f : GSt M x 0 [] k sp) (hr : Room k X.A) (tk : L2N.Takes X (wD X.K B Ψ)) (hg : gb x = true) (h : DPost sp G Φ Ψ [.tup []] O) : WE X B G O (.Call (.Name x p) [] [] pos) Φ := fun F σ H S Q kk => by
  obtain rfl := C.hM
  obtain ⟨f, h1, h2, h4⟩ := f
  refine ⟨fun pins s I => ?_⟩
  refine wpAny_Call_Name_kw (ld_glob I (C.gl x hg).1 h1 ?_ (C.gl x hg).2)
  refine PySem.W.callWith_K0 I.kIn h2 (run_st (us := []) (ws := []) (vs := []) (zs := []) (E := fun σ cls dd H => wD X.K B Ψ cls dd σ H) h4 hr (L2N.passAt tk σ) I .nil .nil (Nat.le_refl _) rfl (Nat.zero_le _) (post_st S .nil .nil h fun v F' H' d O' S' e' r' q' => kk v F' H' d O' S' e' r' q'))
end
end Dl
set_option Elab.async false
set_option linter.all false
set_option maxRecDepth 100000
set_option maxHeartbeats 2000000
namespace Dl
open PySem PySem.Spec PyProof.Rows L2
end Dl
set_option Elab.async false
set_option linter.all false
set_option maxRecDepth 100000
set_option maxHeartbeats 2000000
namespace Dl
open PySem PySem.Spec PyProof.Rows L2
end Dl
set_option Elab.async false
set_option linter.all false
set_option maxRecDepth 100000
set_option maxHeartbeats 2000000
namespace Dl
open PySem PySem.Spec PyProof.Rows L2 LamX
def addL (H : Hp) (ps : List (Addr × Obj)) : Hp := fun b => match ps.lookup b with
  | some o => some (CelO b o)
  | none => H b
def delL (H : Hp) (cs : List Addr) : Hp := fun b => if b ∈ cs then none else H b
theorem mem_lk {ps : List (Addr × Obj)} {b : Addr} {o : Obj} (h : ps.lookup b = some o) : (b, o) ∈ ps := by
  induction ps with
  | nil => cases h
  | cons x r ih =>
    obtain ⟨a, y⟩ := x
    rw [List.lookup_cons] at h
    split at h
    · rename_i e
      cases h
      rw [eq_of_beq e]
      exact List.mem_cons_self
    · exact List.mem_cons_of_mem _ (ih h)
theorem lookup_out {ps : List (Addr × Obj)} {b : Addr} (h : b ∉ ps.map (·.1)) : ps.lookup b = none := by
  cases e : ps.lookup b with
  | none => rfl
  | some o => exact (h (List.mem_map.mpr ⟨(b, o), mem_lk e, rfl⟩)).elim
theorem lookup_nd {α β : Type} [BEq α] [LawfulBEq α] : ∀ {ps : List (α × β)} {b : α} {o : β}, (ps.map (·.1)).Nodup → (b, o) ∈ ps → ps.lookup b = some o
  | (x, y) :: r, b, o, nd, h => by
    obtain ⟨n1, n2⟩ := List.nodup_cons.mp (show (x :: r.map (·.1)).Nodup from nd)
    rw [List.lookup_cons]
    rcases List.mem_cons.mp h with e | hm
    · cases e
      simp
    · have ne : (b == x) = false := by
        rw [beq_eq_false_iff_ne]
        intro z
        exact n1 (z ▸ List.mem_map.mpr ⟨(b, o), hm, rfl⟩)
      rw [ne]
      exact lookup_nd n2 hm
theorem addL_out {H : Hp} {ps : List (Addr × Obj)} {b : Addr} (h : b ∉ ps.map (·.1)) : addL H ps b = H b := by
  unfold addL
  rw [lookup_out h]
theorem addL_in {H : Hp} {ps : List (Addr × Obj)} {p : Addr × Obj} (nd : (ps.map (·.1)).Nodup) (h : p ∈ ps) : addL H ps p.1 = some (CelO p.1 p.2) := by
  unfold addL
  rw [lookup_nd nd (show (p.1, p.2) ∈ ps from h)]
theorem delL_in {H : Hp} {cs : List Addr} {b : Addr} (h : b ∈ cs) : delL H cs b = none := if_pos h
theorem delL_out {H : Hp} {cs : List Addr} {b : Addr} (h : b ∉ cs) : delL H cs b = H b := if_neg h
theorem celO_ok {P : Program} {w : World} {H : Hp} {h : Heap} {c : Addr} {o : Obj} (e : h.get? c = some o) : ObjOk P w H h c (CelO c o) := ⟨e, ⟨o, e⟩, fun h1 h2 z st => st _ z⟩
section
variable {P : Program} {w : World} {H H' : Hp} {h h' : Heap} {ps : List (Addr × Obj)} {cs : List Addr} {fs : List Addr}
theorem hok_add (x : HOk P w H h) (hp : ∀ p ∈ ps, h.get? p.1 = some p.2) (hn : ∀ p ∈ ps, H p.1 = none) : HOk P w (addL H ps) h := fun a u e => by
  have out : ∀ b o, H b = some o → b ∉ ps.map (·.1) := fun b o q hm => by
    obtain ⟨p, hp', rfl⟩ := List.mem_map.mp hm
    rw [hn p hp'] at q
    cases q
  unfold addL at e
  split at e
  · rename_i o ho
    cases e
    exact celO_ok (hp (a, o) (mem_lk ho))
  · exact (x a u e).stay (fun b u _ q => q) (fun b q => by rw [addL_out (out b _ q)]; exact q) (fun b xs q => by rw [addL_out (out b _ q)]; exact q)
theorem hok_del (x : HOk P w H h) (hc : ∀ c ∈ cs, ∃ o, H c = some (CelO c o)) : HOk P w (delL H cs) h := fun a u e => by
  unfold delL at e
  split at e
  · cases e
  · refine (x a u e).stay (fun b u _ q => q) (fun b q => ?_) (fun b xs q => ?_)
    · rw [delL_out (fun hm => by obtain ⟨o, z⟩ := hc b hm; rw [q] at z; cases z)]
      exact q
    · rw [delL_out (fun hm => by obtain ⟨o, z⟩ := hc b hm; rw [q] at z; cases z)]
      exact q
/-- lent cells taken back -/
theorem un_unlend (u : Un fs [] (addL H ps) H' h h') (nd : (ps.map (·.1)).Nodup) (hp : ∀ p ∈ ps, h.get? p.1 = some p.2 ∧ H p.1 = none ∧ H' p.1 = some (CelO p.1 p.2) ∧ h'.get? p.1 = some p.2) : Un fs [] H (delL H' (ps.map (·.1))) h h' := by
  have out : ∀ b o, H b = some o → b ∉ ps.map (·.1) := fun b o q hm => by
    obtain ⟨p, hp', rfl⟩ := List.mem_map.mp hm
    rw [(hp p hp').2.1] at q
    cases q
  have same : ∀ b o, b ∈ ps.map (·.1) → h.get? b = some o → h'.get? b = some o := fun b o hm q => by
    obtain ⟨p, hp', rfl⟩ := List.mem_map.mp hm
    obtain ⟨q1, _, _, q4⟩ := hp p hp'
    rw [q1] at q
    cases q
    exact q4
  refine ⟨fun b o e n hb hx => ?_, fun b o e n hb hx => ?_, fun b o e n hx => ?_, u.there, fun b xs e => ?_, fun b o v e => ?_, fun b qs e => ?_⟩
  · by_cases hm : b ∈ ps.map (·.1)
    · exact same b o hm e
    · exact u.keep b o e (by rw [addL_out hm]; exact n) hb hx
  · by_cases hm : b ∈ ps.map (·.1)
    · exact ⟨o.slots, same b o hm e⟩
    · exact u.slot b o e (by rw [addL_out hm]; exact n) hb hx
  · by_cases hm : b ∈ ps.map (·.1)
    · exact delL_in hm
    · rw [delL_out hm]
      exact u.free b o e (by rw [addL_out hm]; exact n) hx
  · have hm := out b _ e
    rw [delL_out hm]
    exact u.tups b xs (by rw [addL_out hm]; exact e)
  · have hm := out b _ e
    rw [delL_out hm]
    exact u.frzs b o v (by rw [addL_out hm]; exact e)
  · have hm := out b _ e
    rw [delL_out hm]
    exact u.tbls b qs (by rw [addL_out hm]; exact e)
/-- cells of a closure, back in sight -/
theorem un_relend (u : Un fs [] (delL H (ps.map (·.1))) H' h h') (hp : ∀ p ∈ ps, H p.1 = some (CelO p.1 p.2)) : Un fs [] H (addL H' ps) h h' := by
  have out : ∀ b o, H b = some o → (∀ c o', o ≠ CelO c o') → b ∉ ps.map (·.1) := fun b o q hne hm => by
    obtain ⟨p, hp', rfl⟩ := List.mem_map.mp hm
    rw [hp p hp'] at q
    cases q
    exact hne _ _ rfl
  have outn : ∀ b, H b = none → b ∉ ps.map (·.1) := fun b q hm => by
    obtain ⟨p, hp', rfl⟩ := List.mem_map.mp hm
    rw [hp p hp'] at q
    cases q
  have dn : ∀ b, H b = none → delL H (ps.map (·.1)) b = none := fun b n => by rw [delL_out (outn b n)]; exact n
  refine ⟨fun b o e n hb hx => u.keep b o e (dn b n) hb hx, fun b o e n hb hx => u.slot b o e (dn b n) hb hx, fun b o e n hx => ?_, u.there, fun b xs e => ?_, fun b o v e => ?_, fun b qs e => ?_⟩
  · rw [addL_out (outn b n)]
    exact u.free b o e (dn b n) hx
  · have hm := out b _ e (fun c o' z => by cases z)
    rw [addL_out hm]
    exact u.tups b xs (by rw [delL_out hm]; exact e)
  · have hm := out b _ e (fun c o' z => by cases z)
    rw [addL_out hm]
    exact u.frzs b o v (by rw [delL_out hm]; exact e)
  · have hm := out b _ e (fun c o' z => by cases z)
    rw [addL_out hm]
    exact u.tbls b qs (by rw [delL_out hm]; exact e)
end
section
variable {P : Program} {w : World} {K : PySem.W.Frag} {mg : Str → Option Value} {base : Heap} {A : Around} {outer : List Env} {s : Shared} {H : Hp} {ps : List (Addr × Obj)} {cs : List Addr}
theorem env0_lend (e : Env0 P w K mg base A outer s H) (hp : ∀ p ∈ ps, s.heap.get? p.1 = some p.2 ∧ H p.1 = none ∧ p.1 ∉ frs outer ∧ base.get? p.1 = none) : Env0 P w K mg base A outer s (addL H ps) := by
  refine ⟨e.frames, e.mod, fun b o q => ⟨(e.bs b o q).1, ?_⟩, e.bsz, e.funs, fun b hb => ?_, hok_add e.hok (fun p h => (hp p h).1) (fun p h => (hp p h).2.1), e.bare⟩
  · rw [addL_out (fun hm => by obtain ⟨p, hp', rfl⟩ := List.mem_map.mp hm; rw [(hp p hp').2.2.2] at q; cases q)]
    exact (e.bs b o q).2
  · rw [addL_out (fun hm => by obtain ⟨p, hp', rfl⟩ := List.mem_map.mp hm; exact (hp p hp').2.2.1 hb)]
    exact e.frf b hb
theorem env0_del (e : Env0 P w K mg base A outer s H) (hc : ∀ c ∈ cs, ∃ o, H c = some (CelO c o)) : Env0 P w K mg base A outer s (delL H cs) := by
  have n : ∀ b, H b = none → delL H cs b = none := fun b q => by
    unfold delL
    split
    · rfl
    · exact q
  exact ⟨e.frames, e.mod, fun b o q => ⟨(e.bs b o q).1, n _ (e.bs b o q).2⟩, e.bsz, e.funs, fun b hb => n _ (e.frf b hb), hok_del e.hok hc, e.bare⟩
end
/-- a call whose exception is never -/
theorem cxN_no {P : Program} {w : World} {outer : List Env} {H : Hp} {s s' : Shared} {u : Value} (h : L2N.CX P w outer H s (fun _ _ _ => False) u s') : False := by
  obtain ⟨_, _, _, _, _, _, _, _, _, _, _, _, z⟩ := h
  exact z
section
variable {X : Cx} {pins : List (Addr × Obj)} {σ : L2.St} {H : Hp} {s : Shared}
theorem own_cell {i : Nat} {x : Str} {v : V} (I : Inv X pins σ H s) (hi : X.N[i]? = some x) (hs : σ[i]? = some (some v)) (hk : X.env.scope.names.lookup x = some .cell) (hf : X.fn x = true) :
    ∃ c o u, X.env.cells.lookup x = some c ∧ s.heap.get? c = some o ∧ o.data = .cell (some u) ∧ RelV v u ∧ H c = none ∧ c ∉ frs X.stack ∧ X.base.get? c = none := by
  obtain ⟨m, hn, hl⟩ := id I.loc
  obtain ⟨u, r, q⟩ := hl i x v hi hs (.inr (.inl hk))
  rcases q with ⟨k, _⟩ | ⟨_, c, hc, o, ho, hd⟩
  · rw [show X.env.scope.names.lookup x = some .local from k] at hk
    cases hk
  have ge := I.ok.cab x c hf hc
  have n0 : X.s_0.heap.get? c = none := by
    cases z : X.s_0.heap.get? c with
    | none => rfl
    | some o' => exact absurd (Nat.lt_of_lt_of_le (Heap.lt_size z) ge) (Nat.lt_irrefl _)
  refine ⟨c, o, u, hc, ho, hd, r, I.freeC x c hc, fun hb => ?_, ?_⟩
  · rcases List.mem_cons.mp (I.stkSub c hb) with e | hm
    · exact I.cne x c hc e
    · obtain ⟨_, o', ho', _⟩ := I.ok.funs.mem hm
      rw [n0] at ho'
      cases ho'
  · cases z : X.base.get? c with
    | none => rfl
    | some o' =>
      have := (I.ok.bs c o' z).1
      rw [n0] at this
      cases this
end
section
variable {X : Cx} {k : Nat} {f : Addr} {fd : FuncData} {ps : List Str} {sp : Sp} {x : Str} {p pos : Pos} {e : Expr} {es : List Expr} {t : TA}
structure LentOk (X : Cx) (s : Shared) (H : Hp) (ls : List (Addr × Obj)) : Prop where
  nd : (ls.map (·.1)).Nodup
  ok : ∀ p ∈ ls, s.heap.get? p.1 = some p.2 ∧ H p.1 = none ∧ p.1 ∉ frs X.stack ∧ X.base.get? p.1 = none
theorem run_fnL {pins : List (Addr × Obj)} {σ : L2.St} {H : Hp} {s : Shared} {Q : VK} {us : List Value} {vs : List V} {ls : List (Addr × Obj)} (F : FnOk X.prog X.w X.K X.mg X.base (L2N.CX X.prog X.w) k f fd ps sp) (hr : Room k X.A) (hb : Binds X.K fd ps [])
    (I : Inv X pins σ H s) (L : LentOk X s H ls) (r : Vals vs us) (h : sp vs (addL H ls) (fun v H' => (∀ q ∈ ls, H' q.1 = some (CelO q.1 q.2)) ∧ Q v (delL H' (ls.map (·.1)))) (fun _ _ _ => False)) : wpAny (model X.prog X.w) X.A (call (.ref f) us) (EP X pins σ Q) X.xe s := by
  have hl : us.length = ps.length := by rw [← r.length]; exact F.len _ _ _ _ h
  refine wpAny_call (codeAny_mono (F.run X.A X.stack s (addL H ls) ⟨us, []⟩ us vs _ _ hr (env0_lend I.env0 L.ok) (by have := hb s us I.kIn (by rw [List.append_nil]; exact hl); rw [List.append_nil] at this; exact this) r h) fun r s' hq => ?_)
  cases r with
  | error e => exact (cxN_no hq).elim
  | ok fl =>
    cases fl with
    | ret u =>
      obtain ⟨v, H', os, bare, un, hok, rv, qc, q⟩ := hq
      have hc' : ∀ q ∈ ls, s'.heap.get? q.1 = some q.2 := fun q hq => (hok q.1 _ (qc q hq)).1
      refine ⟨v, delL H' (ls.map (·.1)), I.call' (ch := []) os (un_unlend un L.nd fun q hq => ⟨(L.ok q hq).1, (L.ok q hq).2.1, qc q hq, hc' q hq⟩) (hok_del hok fun c hc => ?_) bare (fun b z => absurd z (by simp)), rv, q⟩
      obtain ⟨q, hq, rfl⟩ := List.mem_map.mp hc
      exact ⟨q.2, qc q hq⟩
    | next => exact False.elim hq
    | brk => exact False.elim hq
    | cont => exact False.elim hq
end
def lamVB (sc : Scope) (ps fv : List Str) : Bool := decide (sc.kind = .function) && (!sc.isCoroutine && (!sc.isGenerator && (sc.names.all (fun y => !decide (y.2 = .cell) && (!decide (y.2 = .local) || ps.contains y.1) && (!decide (y.2 = .free) || fv.contains y.1)) &&
  (ps.all (fun y => decide (sc.names.lookup y = some .local)) && (fv.all (fun y => decide (sc.names.lookup y = some .free)) && decide ((ps ++ fv).Nodup))))))
structure LamVS (sc : Scope) (ps fv : List Str) : Prop where
  kind : sc.kind = .function
  co : sc.isCoroutine = false
  gen : sc.isGenerator = false
  nocell : ∀ y ∈ sc.names, y.2 ≠ .cell
  free : ∀ y ∈ sc.names, y.2 = .free → y.1 ∈ fv
  par : ∀ y ∈ ps, sc.names.lookup y = some .local
  fre : ∀ y ∈ fv, sc.names.lookup y = some .free
  nd : (ps ++ fv).Nodup
theorem lamVS_by {sc : Scope} {ps fv : List Str} (h : lamVB sc ps fv = true) : LamVS sc ps fv := by
  unfold lamVB at h
  simp only [Bool.and_eq_true, Bool.or_eq_true, Bool.not_eq_true', decide_eq_true_eq, decide_eq_false_iff_not, List.all_eq_true, List.contains_iff_mem] at h
  obtain ⟨h1, h2, h3, h4, h5, h6, h7⟩ := h
  exact ⟨h1, h2, h3, fun y hy => (h4 y hy).1.1, fun y hy e => (h4 y hy).2.elim (fun n => absurd e n) id, h5, h6, h7⟩
abbrev lamVE (L : LamW) (cl : List (Str × Addr)) (n f c' : Addr) : Env := PySem.W.envX L.q L.scope n f (.ref c') cl
def lamV (P : Program) (w : World) (K : PySem.W.Frag) (mg : Str → Option Value) (base : Heap) (N : List Str) (L : LamW) (cl : List (Str × Addr)) (f c' : Addr) (A : Around) (outer : List Env) (s : Shared) (H : Hp) : Cx where
  prog := P
  w := w
  K := K
  mg := mg
  base := base
  A := A.deeper (lamVE L cl s.heap.objs.size f c')
  N := N
  s_0 := s
  H_0 := H
  env := lamVE L cl s.heap.objs.size f c'
  outer := outer
  stack := lamVE L cl s.heap.objs.size f c' :: outer
  ex := []
  fn := fun _ => false
  calm := true
  pn := []
  xe := fun e s' => wpAny (model P w) (A.deeper (lamVE L cl s.heap.objs.size f c')) (leaving (lamVE L cl s.heap.objs.size f c') e) (fun _ s'' => L2N.CX P w outer H s (fun _ _ _ => False) e s'') (fun e' s'' => L2N.CX P w outer H s (fun _ _ _ => False) e' s'') s'
/-- a captured name: its cell, its value -/
abbrev Cap := Str × Addr × Obj × V
theorem run_lamV {P : Program} {w : World} {K : PySem.W.Frag} {mg : Str → Option Value} {base : Heap} {k : Nat} {f c' : Addr} {L : LamW} {cl : List (Str × Addr)} {fc : List Cap} {ps : List Str} {A : Around} {outer : List Env} {s : Shared} {H : Hp} {us : List Value} {vs : List V} {Q : VK} {E : XK}
    (hL : H f = some (LamOC f L cl c')) (hC : H c' = some (CodeO c' L.q)) (S : LamVS L.scope ps (fc.map (·.1))) (hcl : ∀ q ∈ fc, cl.lookup q.1 = some q.2.1) (hall : ∀ y c, cl.lookup y = some c → y ∈ fc.map (·.1)) (nd : (fc.map fun q => q.2.1).Nodup)
    (hce : ∀ q ∈ fc, H q.2.1 = some (CelO q.2.1 q.2.2.1) ∧ ∃ u, q.2.2.1.data = .cell (some u) ∧ RelV q.2.2.2 u) (hr : Room (k + 1) A) (e0 : Env0 P w K mg base A outer s H)
    (hb : ∀ (pm ctv : Value) (us : List Value), us.length = ps.length → bindArgs (PySem.W.kla_fn "<lambda>" L.q L.params L.body L.scope cl pm (.ref c') ctv) ⟨us, []⟩ = pure (ps.zip us)) (r : Vals vs us) (hl : vs.length = ps.length)
    (hbody : Room k (A.deeper (lamVE L cl s.heap.objs.size f c')) → tSem (lamV P w K mg base (ps ++ fc.map (·.1)) L cl f c' A outer s (delL H (fc.map fun q => q.2.1))) L.body (vs.map some ++ fc.map fun q => some q.2.2.2) (delL H (fc.map fun q => q.2.1)) fun v H' => (∀ q ∈ fc, H' q.2.1 = none) → Q v (addL H' (fc.map fun q => (q.2.1, q.2.2.1)))) :
    codeAny (model P w) A (.call (.ref f) ⟨us, []⟩) (CR (L2N.CX P w) outer P w H s Q E) s := by
  obtain ⟨⟨pm, ctv, of1⟩, _, _⟩ := e0.hok f _ hL
  obtain ⟨⟨oc, ws, t, hoc, hdc, hvc⟩, _, _⟩ := e0.hok c' _ hC
  have lim : s.heap.NoLimit := e0.mod.nolimit.keeps fun b o e => (e0.bs b o e).1
  have hus : us.length = ps.length := by rw [← r.length]; exact hl
  have hcells : ∀ c ∈ fc.map (fun q => q.2.1), ∃ o, H c = some (CelO c o) := fun c hc => by
    obtain ⟨q, hq, rfl⟩ := List.mem_map.mp hc
    exact ⟨_, (hce q hq).1⟩
  have e1 := env0_del e0 hcells
  have ndP : ps.Nodup := (List.nodup_append.mp S.nd).1
  have at_ : ∀ y c, cl.lookup y = some c → ∃ q ∈ fc, q.1 = y ∧ q.2.1 = c := fun y c e => by
    obtain ⟨q, hq, rfl⟩ := List.mem_map.mp (hall y c e)
    have z := hcl q hq
    rw [e] at z
    cases z
    exact ⟨q, hq, rfl, rfl⟩
  refine PySem.W.kla_callFunE hr.depth of1 rfl S.co S.gen rfl ⟨c', oc, ws, t, rfl, hoc, hdc, hvc⟩ ?_
  rw [hb pm ctv us hus]
  refine wpAny_pure (wpAny_newFunctionEnv S.nocell (fun y hy => S.par y.1 (List.of_mem_zip (show (y.1, y.2) ∈ ps.zip us from hy)).1) (fun h₁ hns hsb => ⟨lim.fresh _ hsb, ?_⟩) S.kind)
  show codeAny _ _ (.expr L.body (lamVE L cl s.heap.objs.size f c')) _ _
  have kp : ∀ b o, s.heap.get? b = some o → h₁.get? b = some o := fun b o e => hsb.extBut b o (Nat.ne_of_lt (Heap.lt_size e)) (Heap.get?_push_of_some _ e)
  have hcel : ∀ q ∈ fc, s.heap.get? q.2.1 = some q.2.2.1 := fun q hq => (e0.hok _ _ (hce q hq).1).1
  have J : Inv (lamV P w K mg base (ps ++ fc.map (·.1)) L cl f c' A outer s (delL H (fc.map fun q => q.2.1))) [] (vs.map some ++ fc.map fun q => some q.2.2.2) (delL H (fc.map fun q => q.2.1)) { s with heap := h₁, toks := s.toks + (ps.zip us).length } := by
    have noA : ∀ b : Addr, b ∉ (lamV P w K mg base (ps ++ fc.map (·.1)) L cl f c' A outer s (delL H (fc.map fun q => q.2.1))).ex := fun b z => absurd (show b ∈ ([] : List Addr) from z) (by simp)
    refine ⟨⟨e1.mod, S.kind, rfl, rfl, Nat.le_refl _, fun y z c h1 h2 => ?_, fun y hy => ?_, fun y c z _ => (by have z : false = true := z; cases z), fun _ => hr.hd, Around.frames_deeper e1.frames, .inr ⟨rfl, rfl⟩, fun b z => absurd z (noA b), e1.bs, e1.bsz, fun b _ _ => noA b, fun b z => absurd z (noA b), e1.funs, e1.frf⟩,
      rfl, e1.bare, Un.kept kp, ⟨_, hns, fun i y v h1 h2 h3 => ?_⟩, fun y c h => ?_, e1.hok.fresh (Nat.le_refl _), fun y c h => ?_, fun q hq => absurd (show q ∈ ([] : List (Addr × Obj)) ++ [] from hq) (by simp), e1.hok.kept kp, ?_⟩
    · obtain ⟨q, hq, rfl, e2⟩ := at_ y c h1
      obtain ⟨q', hq', rfl, e3⟩ := at_ z c h2
      have key : ∀ {l : List Cap}, (l.map fun q => q.2.1).Nodup → q ∈ l → q' ∈ l → q = q' := fun {l} n m1 m2 => by
        induction l with
        | nil => cases m1
        | cons a l ih =>
          obtain ⟨n1, n2⟩ := List.nodup_cons.mp (show (a.2.1 :: l.map fun q => q.2.1).Nodup from n)
          rcases List.mem_cons.mp m1 with e | m1 <;> rcases List.mem_cons.mp m2 with e' | m2
          · rw [e, e']
          · exact (n1 (List.mem_map.mpr ⟨q', m2, by rw [e3, ← e2, e]⟩)).elim
          · exact (n1 (List.mem_map.mpr ⟨q, m1, by rw [e2, ← e3, e']⟩)).elim
          · exact ih n2 m1 m2
      rw [key nd hq hq']
    · have hy : L.scope.names.lookup y = some .cell ∨ L.scope.names.lookup y = some .free := hy
      rcases hy with hy | hy
      · exact absurd rfl (S.nocell _ (PySem.mem_of_lookup hy))
      · obtain ⟨q, hq, e⟩ := List.mem_map.mp (S.free _ (PySem.mem_of_lookup hy) rfl)
        exact ⟨q.2.1, by rw [← show q.1 = y from e]; exact hcl q hq⟩
    · have h1 : (ps ++ fc.map (·.1))[i]? = some y := h1
      by_cases hi : i < ps.length
      · rw [List.getElem?_append_left hi] at h1
        rw [List.getElem?_append_left (by rw [List.length_map]; omega), List.getElem?_map] at h2
        obtain ⟨v0, hv0⟩ : ∃ v0, vs[i]? = some v0 := ⟨_, List.getElem?_eq_getElem (by omega)⟩
        rw [hv0] at h2
        cases h2
        obtain ⟨u, hu, rv⟩ := r.get hv0
        refine ⟨u, rv, .inl ⟨S.par y (List.mem_of_getElem? h1), ?_⟩⟩
        have hz : (ps.zip us)[i]? = some (y, u) := by
          rw [List.getElem?_zip_eq_some]
          exact ⟨h1, hu⟩
        refine lookup_nd ?_ (List.mem_reverse.mpr (List.mem_of_getElem? hz))
        rw [List.map_reverse, List.map_fst_zip (by omega)]
        exact (List.reverse_perm ps).nodup_iff.mpr ndP
      · rw [List.getElem?_append_right (by omega)] at h1
        rw [List.getElem?_append_right (by rw [List.length_map]; omega), List.length_map, hl] at h2
        rw [List.getElem?_map] at h1 h2
        cases e : fc[i - ps.length]? with
        | none => rw [e] at h1; cases h1
        | some q =>
          rw [e] at h1 h2
          cases h1
          cases h2
          have hq := List.mem_of_getElem? e
          obtain ⟨_, u, hd, rv⟩ := hce q hq
          exact ⟨u, rv, .inr ⟨.inr (S.fre _ (List.mem_map.mpr ⟨q, hq, rfl⟩)), q.2.1, hcl q hq, q.2.2.1, kp _ _ (hcel q hq), hd⟩⟩
    · obtain ⟨q, hq, rfl, rfl⟩ := at_ y c h
      obtain ⟨_, u, hd, _⟩ := hce q hq
      exact ⟨some u, q.2.2.1, kp _ _ (hcel q hq), hd⟩
    · obtain ⟨q, hq, rfl, rfl⟩ := at_ y c h
      exact delL_in (List.mem_map.mpr ⟨q, hq, rfl⟩)
    · show (vs.map some ++ fc.map fun q => some q.2.2.2).length = (ps ++ fc.map (·.1)).length
      rw [List.length_append, List.length_append, List.length_map, List.length_map, List.length_map, hl]
  refine PySem.W.kla_codeExpr (wpAny_mono ((hbody (hr.deeper _)).run [] _ J) (fun v s' ⟨w', H', J', rv, q⟩ => ?_) fun e s' hq => ?_)
  · have hn : ∀ q ∈ fc, H' q.2.1 = none := fun q hq => J'.freeC q.1 q.2.1 (hcl q hq)
    have hk : ∀ q ∈ fc, s'.heap.get? q.2.1 = some q.2.2.1 := fun q hq => J'.base.keep q.2.1 _ (hcel q hq) (delL_in (List.mem_map.mpr ⟨q, hq, rfl⟩)) (fun hb => by
      have := e0.frf _ (show q.2.1 ∈ frs outer from hb)
      rw [(hce q hq).1] at this
      cases this) (fun z => by cases z)
    have em : (fc.map fun q => (q.2.1, q.2.2.1)).map (·.1) = fc.map fun q => q.2.1 := by rw [List.map_map] <;> rfl
    refine ⟨w', _, J'.os, J'.bare, un_relend (by rw [em]; exact J'.base) (fun p hp => ?_), hok_add J'.hok (fun p hp => ?_) (fun p hp => ?_), rv, q hn⟩
    · obtain ⟨q, hq, rfl⟩ := List.mem_map.mp hp
      exact (hce q hq).1
    · obtain ⟨q, hq, rfl⟩ := List.mem_map.mp hp
      exact hk q hq
    · obtain ⟨q, hq, rfl⟩ := List.mem_map.mp hp
      exact hn q hq
  · exact wpAny_mono hq (fun _ s'' z => (cxN_no z).elim) fun e' s'' z => (cxN_no z).elim
end Dl
set_option Elab.async false
set_option linter.all false
set_option maxRecDepth 100000
set_option maxHeartbeats 2000000
namespace Dl
open PySem PySem.Spec PyProof.Rows L2 LamX
theorem permA {C Oc : Own} {a b : Addr × OV} : (C ++ a :: b :: Oc).Perm ((C ++ a :: Oc) ++ [b]) := by
  rw [List.append_assoc]
  exact List.Perm.append_left _ (List.Perm.cons _ (List.perm_append_singleton _ _).symm)
theorem permB {C Oc : Own} {a b c : Addr × OV} : (C ++ a :: b :: c :: Oc).Perm ((C ++ a :: Oc) ++ [b, c]) := by
  rw [List.append_assoc]
  exact List.Perm.append_left _ (List.Perm.cons _ (List.perm_append_comm (l₁ := [b, c]) (l₂ := Oc)))
theorem permC {C : Own} {a b c d : Addr × OV} : (C ++ a :: b :: c :: [d]).Perm ((d :: (C ++ [a, b])) ++ [c]) := by
  have h1 : (C ++ a :: b :: c :: [d]) = C ++ [a, b] ++ [c, d] := by simp
  rw [h1]
  have h2 : (d :: (C ++ [a, b])) ++ [c] = d :: (C ++ [a, b] ++ [c]) := rfl
  rw [h2]
  refine List.Perm.trans ?_ (List.perm_append_singleton d _)
  simp
abbrev NDs := List (Str × D)
/-- the lent cells: the captured names with their values, the cells' addresses and objects -/
abbrev cels (xs : NDs) (ca : Str → Addr) (co : Str → Obj) : Own := xs.map fun p => (ca p.1, OV.cel (co p.1) p.2)
abbrev lnt (xs : NDs) (ca : Str → Addr) (co : Str → Obj) : List (Addr × Obj) := xs.map fun p => (ca p.1, co p.1)
abbrev cadr (xs : NDs) (ca : Str → Addr) : List Addr := xs.map fun p => ca p.1
theorem lnt_cadr (xs : NDs) (ca : Str → Addr) (co : Str → Obj) : (lnt xs ca co).map (·.1) = cadr xs ca := by
  rw [List.map_map] <;> rfl
theorem cels_keys (xs : NDs) (ca : Str → Addr) (co : Str → Obj) : keys (cels xs ca co) = cadr xs ca := by
  unfold keys
  rw [List.map_map] <;> rfl
section
variable {K : PySem.W.Frag} {B : Bs} {G G' : Sl} {O : Own} {F H F' H' : Hp} {σ σ' : L2.St} {xs : NDs} {ca : Str → Addr} {co : Str → Obj}
theorem Sat.lend (S : Sat K B G O F σ H) (nd : (cadr xs ca).Nodup) (hn : ∀ p ∈ xs, H (ca p.1) = none) (hd : ∀ p ∈ xs, ∃ u v, (co p.1).data = .cell (some u) ∧ RelV v u ∧ Rep K F v p.2) : Sat K B G (cels xs ca co ++ O) F σ (addL H (lnt xs ca co)) := by
  have out : ∀ b o, H b = some o → b ∉ (lnt xs ca co).map (·.1) := fun b o q hm => by
    rw [lnt_cadr] at hm
    obtain ⟨p, hp, rfl⟩ := List.mem_map.mp hm
    rw [hn p hp] at q
    cases q
  refine ⟨S.len, S.slot, fun b o e => ?_, ?_, fun p hp => ?_, S.bF, fun a o e1 e2 e3 => ?_⟩
  · have := S.ex b o e
    rw [addL_out (out b o this)]
    exact this
  · show (keys (cels xs ca co ++ O)).Nodup
    rw [keys_app, cels_keys]
    refine List.nodup_append.mpr ⟨nd, S.nd, fun a ha b hb e => ?_⟩
    subst e
    obtain ⟨p, hp, rfl⟩ := List.mem_map.mp ha
    obtain ⟨ov, q⟩ := keys_mem hb
    obtain ⟨o, z⟩ := S.lt q
    rw [hn p hp] at z
    cases z
  · rcases List.mem_append.mp hp with hp | hp
    · obtain ⟨q, hq, rfl⟩ := List.mem_map.mp hp
      refine ⟨S.ex.free (hn q hq), ?_, hd q hq⟩
      exact addL_in (p := (ca q.1, co q.1)) (by rw [lnt_cadr]; exact nd) (List.mem_map.mpr ⟨q, hq, rfl⟩)
    · obtain ⟨o, z⟩ := S.lt hp
      exact ⟨(S.own p hp).1, (S.own p hp).2.mono (Same.refl _) (addL_out (out p.1 o z))⟩
  · obtain ⟨h1, h2, h3⟩ := S.bH a o e1 e2 e3
    have no := out a o h1
    refine ⟨by rw [addL_out no]; exact h1, h2, fun hm => ?_⟩
    rw [keys_app, cels_keys] at hm
    rw [lnt_cadr] at no
    exact (List.mem_append.mp hm).elim no h3
theorem Sat.unlend (S : Sat K B G (cels xs ca co ++ O) F σ H) : Sat K B G O F σ (delL H (cadr xs ca)) := by
  have nd := S.nd
  rw [keys_app, cels_keys] at nd
  obtain ⟨n1, n2, n3⟩ := List.nodup_append.mp nd
  refine ⟨S.len, S.slot, fun b o e => ?_, n2, fun p hp => ?_, S.bF, fun a o e1 e2 e3 => ?_⟩
  · rw [delL_out (fun hm => ?_)]
    · exact S.ex b o e
    · obtain ⟨q, hq, rfl⟩ := List.mem_map.mp hm
      have := (S.own (ca q.1, .cel (co q.1) q.2) (List.mem_append_left _ (List.mem_map.mpr ⟨q, hq, rfl⟩))).1
      rw [show F (ca q.1) = none from this] at e
      cases e
  · have := S.own p (List.mem_append_right _ hp)
    exact ⟨this.1, this.2.mono (Same.refl _) (delL_out fun hm => n3 _ hm _ (mem_keys hp) rfl)⟩
  · obtain ⟨h1, h2, h3⟩ := S.bH a o e1 e2 e3
    rw [keys_app, cels_keys] at h3
    exact ⟨by rw [delL_out fun hm => h3 (List.mem_append_left _ hm)]; exact h1, h2, fun hm => h3 (List.mem_append_right _ hm)⟩
theorem Sat.relend (S : Sat K B G (cels xs ca co ++ O) F σ H) (S' : Sat K ⟨F, delL H (cadr xs ca), keys O⟩ G' O F' σ' H') (hn : ∀ p ∈ xs, H' (ca p.1) = none) : Sat K B G' (cels xs ca co ++ O) F' σ' (addL H' (lnt xs ca co)) := by
  have nd := S.nd
  rw [keys_app, cels_keys] at nd
  obtain ⟨n1, n2, n3⟩ := List.nodup_append.mp nd
  have out : ∀ b o, H' b = some o → b ∉ (lnt xs ca co).map (·.1) := fun b o q hm => by
    rw [lnt_cadr] at hm
    obtain ⟨p, hp, rfl⟩ := List.mem_map.mp hm
    rw [hn p hp] at q
    cases q
  refine ⟨S'.len, S'.slot, fun b o e => ?_, S.nd, fun p hp => ?_, S.bF.trans S'.bF, fun a o e1 e2 e3 => ?_⟩
  · have := S'.ex b o e
    rw [addL_out (out b o this)]
    exact this
  · rcases List.mem_append.mp hp with hm | hm
    · obtain ⟨q, hq, rfl⟩ := List.mem_map.mp hm
      obtain ⟨_, _, u, v, h3, h4, h5⟩ := S.own _ hp
      exact ⟨S'.ex.free (hn q hq), addL_in (p := (ca q.1, co q.1)) (by rw [lnt_cadr]; exact n1) (List.mem_map.mpr ⟨q, hq, rfl⟩), u, v, h3, h4, h5.mono S'.bF⟩
    · obtain ⟨o, z⟩ := S'.lt hm
      exact ⟨(S'.own p hm).1, (S'.own p hm).2.mono (Same.refl _) (addL_out (out p.1 o z))⟩
  · obtain ⟨h1, h2, h3⟩ := S.bH a o e1 e2 e3
    have h3' := h3
    rw [keys_app, cels_keys] at h3'
    obtain ⟨g1, g2, g3⟩ := S'.bH a o (by show delL H (cadr xs ca) a = some o; rw [delL_out fun hm => h3' (List.mem_append_left _ hm)]; exact h1) h2 (fun hm => h3' (List.mem_append_right _ hm))
    exact ⟨by rw [addL_out (out a o g1)]; exact g1, g2, h3⟩
end
/-- a function's value: what a call of it by place promises -/
def VFn (M : Mach) (k : Nat) (f : Addr) (sp : DSp) : Prop := ∀ (A : Around) (outer : List Env) (s : Shared) (H : Hp) (us : List Value) (vs : List V) (Q : VK) (E : XK), Room k A → Env0 M.P M.w M.K M.mg M.base A outer s H → Vals vs us → liftSp M.K sp vs H Q E →
  codeAny (model M.P M.w) A (.call (.ref f) ⟨us, []⟩) (CR (L2N.CX M.P M.w) outer M.P M.w H s Q E) s
theorem VFn.mono {M : Mach} {j k : Nat} {f : Addr} {sp : DSp} (h : VFn M j f sp) (l : j ≤ k) : VFn M k f sp := fun A outer s H us vs Q E hr => h A outer s H us vs Q E (hr.mono l)
/-- .. that changes nothing of what it is lent -/
def spFun (O0 : Own) (dom : List D → D → Prop) : DSp := fun ds O Φ _ => ∃ v, dom ds v ∧ O = O0 ∧ Φ v O0
theorem liftSp_mono {K : PySem.W.Frag} {sp : DSp} {vs : List V} {H : Hp} {Q : VK} {E E' : XK} (h : liftSp K sp vs H Q E) (k : ∀ cls dd H', E cls dd H' → E' cls dd H') : liftSp K sp vs H Q E' := by
  obtain ⟨F, O, ds, Φ, Ψ, S, r, p, q1, q2⟩ := h
  exact ⟨F, O, ds, Φ, Ψ, S, r, p, q1, fun cls dd F' H' x O' G σ S' xr w => k _ _ _ (q2 cls dd F' H' x O' G σ S' xr w)⟩
/-- a lambda at f, its closure cl -/
theorem caps_of {K : PySem.W.Frag} {B : Bs} {G : Sl} {F H : Hp} {σ : L2.St} {ca : Str → Addr} {co : Str → Obj} {O : Own} : ∀ {xs : NDs}, (∀ p ∈ cels xs ca co, F p.1 = none ∧ ORep K F H p.1 p.2) →
    ∃ fc : List Cap, fc.map (·.1) = xs.map (·.1) ∧ (fc.map fun q => q.2.1) = cadr xs ca ∧ (fc.map fun q => (q.2.1, q.2.2.1)) = lnt xs ca co ∧ Reps K F (fc.map fun q => q.2.2.2) (xs.map (·.2)) ∧ (∀ q ∈ fc, q.2.1 = ca q.1) ∧ ∀ q ∈ fc, H q.2.1 = some (CelO q.2.1 q.2.2.1) ∧ ∃ u, q.2.2.1.data = .cell (some u) ∧ RelV q.2.2.2 u
  | [], _ => ⟨[], rfl, rfl, rfl, .nil, fun q h => (by cases h), fun q h => (by cases h)⟩
  | x :: xs, h => by
    obtain ⟨fc, h1, h2, h3, h4, h5, h6⟩ := caps_of (O := O) (B := B) (G := G) (σ := σ) (xs := xs) fun p hp => h p (List.mem_cons_of_mem _ hp)
    obtain ⟨_, z1, u, v, z2, z3, z4⟩ := h (ca x.1, .cel (co x.1) x.2) List.mem_cons_self
    refine ⟨(x.1, ca x.1, co x.1, v) :: fc, by rw [List.map_cons, List.map_cons, h1], by rw [List.map_cons, h2] <;> rfl, by rw [List.map_cons, h3] <;> rfl, .cons z4 h4, fun q hq => ?_, fun q hq => ?_⟩
    · rcases List.mem_cons.mp hq with rfl | hq
      · rfl
      · exact h5 q hq
    · rcases List.mem_cons.mp hq with rfl | hq
      · exact ⟨z1, u, z2, z3⟩
      · exact h6 q hq
theorem vfn_lam {M : Mach} {k : Nat} {f : Addr} {L : LamW} {cl : List (Str × Addr)} {ps gl : List Str} (ns : List Str) (xs : NDs) {ca : Str → Addr} {co : Str → Obj} {O0 Or : Own} {dom : List D → D → Prop} (hns : xs.map (·.1) = ns) (hS : lamVB L.scope ps ns = true) (hsc : lamSc L.scope (ps ++ ns) gl = true)
    (hb : ∀ (c' : Addr) (pm ctv : Value) (us : List Value), us.length = ps.length → bindArgs (PySem.W.kla_fn "<lambda>" L.q L.params L.body L.scope cl pm (.ref c') ctv) ⟨us, []⟩ = pure (ps.zip us)) (hcl : ∀ p ∈ xs, cl.lookup p.1 = some (ca p.1)) (hall : ∀ y c, cl.lookup y = some c → y ∈ ns)
    (hp : O0.Perm (cels xs ca co ++ Or)) (hm : (f, OV.lamc L cl) ∈ Or) (hlen : ∀ ds v, dom ds v → ds.length = ps.length)
    (hbody : ∀ (X' : Cx) (B' : Bs) (ds : List D) (v : D), dom ds v → LamB M X' B' (ps ++ ns) (ps ++ ns) gl L.scope k (fun _ _ _ => False) → PEv X' B' (ds.map some ++ xs.map fun p => some p.2) Or L.body v) :
    VFn M (k + 1) f (spFun O0 dom) := by
  subst hns
  intro A outer s H us vs Q E hr e0 r h
  obtain ⟨F, O, ds, Φ, Ψ, S, rs, ⟨v, hd, rfl, q⟩, k1, k2⟩ := h
  have S1 : Sat M.K ⟨F, H, keys O⟩ [] (cels xs ca co ++ Or) F [] H := S.perm hp
  have VS := lamVS_by hS
  unfold lamSc at hsc
  rw [Bool.and_eq_true, List.all_eq_true, List.all_eq_true] at hsc
  obtain ⟨fc, c1, c2, c3, c4, c5, c6⟩ := caps_of (K := M.K) (B := ⟨F, H, keys O⟩) (G := []) (σ := []) (O := Or) (xs := xs) (ca := ca) (co := co) (F := F) (H := H) fun p hp => S1.own p (List.mem_append_left _ hp)
  obtain ⟨_, c', hc1, hc2⟩ := S1.own _ (List.mem_append_right _ hm)
  have nd := S1.nd
  rw [keys_app, cels_keys] at nd
  have n1 := (List.nodup_append.mp nd).1
  have hvl : vs.length = ps.length := by rw [rs.length]; exact hlen ds v hd
  refine run_lamV (fc := fc) (ps := ps) hc1 (S1.ex _ _ hc2) (by rw [c1]; exact VS) (fun q hq => ?_) (fun y c e => by rw [c1]; exact hall y c e) (by rw [c2]; exact n1) c6 hr e0 (hb c') r hvl fun hr' => ?_
  · have z : q.1 ∈ xs.map (·.1) := by rw [← c1]; exact List.mem_map.mpr ⟨q, hq, rfl⟩
    obtain ⟨p, hp', e⟩ := List.mem_map.mp z
    rw [c5 q hq, ← e]
    exact hcl p hp'
  · rw [c2, c3, c1]
    have lb : LamB M (lamV M.P M.w M.K M.mg M.base (ps ++ xs.map (·.1)) L cl f c' A outer s (delL H (cadr xs ca))) ⟨F, delL H (cadr xs ca), keys Or⟩ (ps ++ xs.map (·.1)) (ps ++ xs.map (·.1)) gl L.scope k (fun _ _ _ => False) := by
      refine ⟨⟨rfl, rfl, rfl, VS.kind, VS.nd, rfl, passes_of rfl, hr'.units, fun y hy => vis_of (hsc.1 y (contains_mem hy)), fun y hy => (by cases hy), fun y hy => gl_of (hsc.2 y (contains_mem hy))⟩, hr', takes_no⟩
    have S2 := S1.unlend
    have nd2 : (keys Or).Nodup := (List.nodup_append.mp nd).2.1
    have rsl : Reps M.K F (vs ++ fc.map fun q => q.2.2.2) (ds ++ xs.map (·.2)) := rs.append c4
    have eG : (ds.map some ++ xs.map fun p => some p.2) = (ds ++ xs.map (·.2)).map some := by rw [List.map_append, List.map_map] <;> rfl
    have eσ : (vs.map some ++ fc.map fun q => some q.2.2.2) = (vs ++ fc.map fun q => q.2.2.2).map some := by rw [List.map_append, List.map_map] <;> rfl
    have S3 : Sat M.K ⟨F, delL H (cadr xs ca), keys Or⟩ (ds.map some ++ xs.map fun p => some p.2) Or F (vs.map some ++ fc.map fun q => some q.2.2.2) (delL H (cadr xs ca)) := by
      have S2' : Sat M.K ⟨F, H, keys O⟩ [] (Or ++ []) F [] (delL H (cadr xs ca)) := by rw [List.append_nil]; exact S2
      refine S2'.part ?_ fun i d e => ?_
      · rw [eG, eσ, List.length_map, List.length_map, rsl.length]
      · rw [eG, List.getElem?_map] at e
        rw [eσ]
        cases z : (ds ++ xs.map (·.2))[i]? with
        | none => rw [z] at e; cases e
        | some d' =>
          rw [z] at e
          cases e
          obtain ⟨w, g1, g2⟩ := rsl.get z
          exact ⟨w, by rw [List.getElem?_map, g1]; rfl, g2⟩
    refine hbody _ _ ds v hd lb F _ _ S3 _ fun v' F' H' d' O' S' e' r' ⟨e1, e2⟩ => fun hn => ?_
    subst e1 e2
    have hn' : ∀ p ∈ xs, H' (ca p.1) = none := fun p hp' => by
      have z : ca p.1 ∈ fc.map fun q => q.2.1 := by rw [c2]; exact List.mem_map.mpr ⟨p, hp', rfl⟩
      obtain ⟨q, hq, e⟩ := List.mem_map.mp z
      rw [← e]
      exact hn q hq
    exact k1 v' F' _ d' O _ _ ((S1.relend S' hn').perm hp.symm) r' q
section
variable {M : Mach} {X : Cx} {N : List Str} {sc : Scope} {vb lb gb : Str → Bool} {B : Bs} {G : Sl} {O O0 Ob : Own} {e a b : Expr} {es : List Expr} {pos p : Pos} {x : Str} {k i : Nat} {c P : Addr} {params : Arguments} {body : Expr} {scope : Scope} {L : LamW} {cl : List (Str × Addr)} {f : Addr} {dom : List D → D → Prop} {ds : List D} {v : D}
theorem pe_callV {sp : Sp} {E : L2.St → XK} {t : TA} (hi : X.N[i]? = some x) (hv : Vis X.env.scope x) (hd : (x == ("__debug__" : Str)) = false) (hcd : (x == ("__classdict__" : Str)) = false)
    (F : ∀ (A : Around) (outer : List Env) (s : Shared) (H : Hp) (us : List Value) (vs : List V) (Q : VK) (E : XK), Room k A → Env0 X.prog X.w X.K X.mg X.base A outer s H → Vals vs us → sp vs H Q E → codeAny (model X.prog X.w) A (.call (.ref f) ⟨us, []⟩) (CR (L2N.CX X.prog X.w) outer X.prog X.w H s Q E) s)
    (hr : Room k X.A) (hx : ∀ σ, PassesAt (L2N.CX X.prog X.w) X σ (E σ)) (ha : PA X (e :: es) t) (he : starEach (e :: es) X.env = (false, eval e X.env) :: starEach es X.env) (hpl : (backTo pos (starEach es X.env)).any (·.1) = false) :
    PE X (.Call (.Name x p) (e :: es) [] pos) (fun σ H Q => (∃ c', H f = some (LamOC f L cl c')) ∧ σ[i]? = some (some (.ref f)) ∧ t σ H fun vs H1 => (∃ c', H1 f = some (LamOC f L cl c')) ∧ sp vs H1 Q (E σ)) := by
  refine ⟨fun pins s σ H Q I ⟨⟨c0, h0⟩, hs, h⟩ => ?_⟩
  refine wpAny_Call_Name_kw (thn ((pe_var (pos := p) (i := i) hi hv hd hcd).run pins s σ H (fun v H1 => v = .ref f ∧ H1 = H) I ⟨.ref f, hs, rfl, rfl⟩) fun u s1 ⟨v, H1, I1, r1, ev, eH⟩ => ?_)
  subst ev
  rw [eH] at I1
  obtain rfl : u = Value.ref f := r1
  obtain ⟨⟨pm0, ctv0, of0⟩, _, _⟩ := I1.hok f _ h0
  refine PySem.W.callWith_F ⟨_, _, _, _, of0⟩ (thn (ha.run pos pins s1 σ H _ I1 h) fun us s2 ⟨vs, H2, I2, r2, ⟨c', h1⟩, z⟩ => ?_) he hpl
  obtain ⟨⟨pm, ctv, of1⟩, _, _⟩ := I2.hok f _ h1
  refine ⟨⟨_, _, _, _, of1⟩, ?_⟩
  refine wpAny_call (codeAny_mono (F X.A X.stack s2 H2 us vs Q (E σ) hr I2.env0 r2 z) fun r s' hq => ?_)
  cases r with
  | error e => exact hx σ pins H2 s2 e s' I2 hq
  | ok fl => cases fl with
    | ret u => exact I2.after hq
    | next => exact hq.elim
    | brk => exact hq.elim
    | cont => exact hq.elim
/-- x(..), x a name that holds a lambda, what it gives known -/
theorem pv_callV (C : Cxt M X N sc vb lb gb) (hx : VarAt N G x (.obj f)) (hv : vb x = true) (Fn : VFn M k f (spFun O0 dom)) (hr : Room k X.A) (hm : (f, OV.lamc L cl) ∈ O) (hp : O.Perm (O0 ++ Ob)) (ha : PAv X B G O (e :: es) ds) (hd : dom ds v)
    (he : starEach (e :: es) X.env = (false, eval e X.env) :: starEach es X.env := by exact star_cons rfl) (hpl : (backTo pos (starEach es X.env)).any (·.1) = false := by rfl) : PEv X B G O (.Call (.Name x p) (e :: es) [] pos) v := fun F σ H S Q kk => by
  have hM := C.hM
  subst hM
  obtain ⟨i, h1, h2⟩ := hx.ix
  obtain ⟨w1, w2, w3⟩ := C.vis x hv
  obtain ⟨w, ev, rv⟩ := S.slot i _ h2
  cases rv
  refine sem (pe_callV (f := f) (L := L) (cl := cl) (i := i) (k := k) (sp := liftSp X.K (spFun O0 dom)) (E := fun σ cls dd H => wD X.K B (fun _ _ _ => False) cls dd σ H) (by rw [C.hN]; exact h1) w1 w2 w3 Fn hr (fun σ => L2N.passAt takes_no σ) pa_sem he hpl) ?_
  obtain ⟨_, c0, hc0, _⟩ := S.own _ hm
  refine ⟨⟨c0, hc0⟩, ev, ?_⟩
  refine ha F σ H S _ fun vs F1 H1 ds1 O1 S1 e1 r1 ⟨q1, q2⟩ => ?_
  subst q1 q2
  obtain ⟨_, c1, hc1, _⟩ := S1.own _ hm
  refine ⟨⟨c1, hc1⟩, ?_⟩
  exact post_run (Φ := fun d O' => d = v ∧ O'.Perm O1) (Ψ := fun _ _ _ => False) S1 r1 ⟨O0, Ob, hp, v, hd, rfl, rfl, hp.symm⟩ fun v2 F' H' d O' S' e' r' ⟨z1, z2⟩ => kk v2 F' H' d O1 (S'.perm z2) (e1.trans e') r' ⟨z1, rfl⟩
end
section
variable {X : Cx} {pins : List (Addr × Obj)} {σ : L2.St} {H F : Hp} {s : Shared}
/-- the making of a lambda with a closure -/
theorem lam_makeC {c P : Addr} {params : Arguments} {body : Expr} {scope : Scope} {pos : Pos} {E : Value → Shared → Prop} {Q : Value → Shared → Prop} (I : Inv X pins σ H s) (TB : TabB X.base X.mg c P) (hcode : X.env.code = .ref c)
    (sFH : Same F H) (hFP : F P = none) (hT : TabF F H P (X.env.qual ++ "<lambda>")) (hdef : defaultsOf params X.env = ([], [])) (hfr : ∀ y ∈ scope.names, y.2 = .free → ∃ c, X.env.cells.lookup y.1 = some c)
    (h : ∀ (f c' : Addr) (F1 H1 : Hp) (s' : Shared), Hz.Made F H F1 H1 P c' (X.env.qual ++ "<lambda>") → H1 f = none → Inv X pins σ (upd H1 f (LamOC f ⟨params, body, scope, X.env.qual ++ "<lambda>"⟩ (cloFrom X.env.cells scope.names []) c')) s' → Q (.ref f) s') :
    wpAny (model X.prog X.w) X.A (eval (.Lambda params body scope pos) X.env) Q E s := by
  obtain ⟨ps, hP, ht, hcs⟩ := hT
  have bP : s.heap.BuiltinsAt X.mg P := TB.bm.keeps I.bk
  have gP : s.heap.get? P = some { cls := .none, data := .fields ps } := I.hok P _ hP
  have laid : ∀ {Ha : Hp} {sa : Shared} {ctv pm : Value} {c' : Addr} {tk : Nat}, Inv X pins σ Ha sa → Inv X pins σ (upd Ha sa.heap.objs.size (LamOC sa.heap.objs.size ⟨params, body, scope, X.env.qual ++ "<lambda>"⟩ (cloFrom X.env.cells scope.names []) c')) { sa with heap := sa.heap.push (PySem.W.kla_obj "<lambda>" (X.env.qual ++ "<lambda>") params body scope (cloFrom X.env.cells scope.names []) pm c' ctv), toks := tk } := fun {Ha sa ctv pm c' tk} Ia => by
    refine Ia.laid (fun b u e => Heap.get?_push_of_some _ e) (Nat.le_refl _) ?_
    have e := Heap.get?_push_size sa.heap (o := PySem.W.kla_obj "<lambda>" (X.env.qual ++ "<lambda>") params body scope (cloFrom X.env.cells scope.names []) pm c' ctv) rfl
    exact ⟨⟨pm, ctv, e⟩, ⟨_, e⟩, fun h1 h2 ⟨p, t, z⟩ st => ⟨p, t, st _ z⟩⟩
  refine PySem.W.kla_eval hdef ?_
  cases hc : codeAmong pos ps.toList with
  | some cv =>
    obtain ⟨c', e, hco⟩ := hcs pos cv hc
    subst e
    refine PySem.W.kla_makeFunctionHit (mg := X.mg) (c := c) (P := P) (ps := ps) (closure_ok hfr) I.ok.glob (I.mod.glob.keeps I.bk) hcode (TB.code.keeps I.bk) gP ht hc bP fun ctv h' tk hx hsz => ?_
    have I1 : Inv X pins σ H { s with heap := h', toks := tk } := I.kept (t' := tk) fun b o e => hx b o e
    exact h h'.objs.size c' F H _ ⟨Same.refl _, sFH, ⟨ps, hP, ht, hcs⟩, fun _ _ _ e => e, fun b e n => absurd e n, hco⟩ (I1.hok.fresh (Nat.le_refl _)) (laid (tk := tk) I1)
  | none =>
    refine PySem.W.kla_makeFunction (mg := X.mg) (c := c) (P := P) (ps := ps) (closure_ok hfr) I.ok.glob (I.mod.glob.keeps I.bk) hcode (TB.code.keeps I.bk) gP ht hc TB.gP bP fun c' ctv h' tk hx hge hlt hrec htb => ?_
    obtain ⟨c2, oc, vs, t, e2, hoc, hd, hv⟩ := hrec
    cases e2
    have nC : H c' = none := I.hok.fresh hge
    have nFC : F c' = none := sFH.free nC
    have nPc : P ≠ c' := ne_of_none hP nC
    have I1 := inv_table (t' := tk) (more := #[rawInt pos.line, rawInt pos.col, .ref c']) (h' := h') I hP (fun b o hb e => hx b o hb e) htb hge ⟨oc, vs, t, hoc, hd, hv⟩
    have eL : (ps ++ #[rawInt pos.line, rawInt pos.col, .ref c']).toList = ps.toList ++ [rawInt pos.line, rawInt pos.col, .ref c'] := by simp
    refine h h'.objs.size c' (upd F c' (CodeO c' (X.env.qual ++ "<lambda>"))) _ _ ⟨same_upd nFC, fun b o e => ?_, ⟨_, by rw [upd_ne nPc, upd_same], by rw [eL]; exact PySem.TriplesOk_snoc _ _ _ _ ht, fun p' cv hcv => ?_⟩, fun b o n e => ?_, fun b e n => ?_, upd_same⟩ (I1.hok.fresh (Nat.le_refl _)) (laid (tk := tk) I1)
    · by_cases hb : b = c'
      · rw [hb, upd_same] at e
        rw [hb, upd_same]; exact e
      · rw [upd_ne hb] at e
        rw [upd_ne hb, upd_ne (fun z => by rw [z, hFP] at e; cases e)]
        exact sFH b o e
    · rw [eL] at hcv
      rcases among_app _ ht hcv with z | z
      · obtain ⟨c0, e1, e2⟩ := hcs p' cv z
        exact ⟨c0, e1, same_upd nFC _ _ e2⟩
      · exact ⟨c', z, upd_same⟩
    · rw [upd_ne (ne_of_none e nC), upd_ne n]
      exact e
    · by_cases hb : b = c'
      · rw [hb]; exact nC
      · rw [upd_ne hb] at n
        exact absurd e n
def tLamC (X : Cx) (P : Addr) (params : Arguments) (body : Expr) (scope : Scope) : TE := fun _ H Q => ∃ F, Same F H ∧ F P = none ∧ TabF F H P (X.env.qual ++ "<lambda>") ∧ ∀ F1 H1 c' f, Hz.Made F H F1 H1 P c' (X.env.qual ++ "<lambda>") → H1 f = none → Q (.ref f) (upd H1 f (LamOC f ⟨params, body, scope, X.env.qual ++ "<lambda>"⟩ (cloFrom X.env.cells scope.names []) c'))
theorem pe_lamC {c P : Addr} {params : Arguments} {body : Expr} {scope : Scope} {pos : Pos} (TB : TabB X.base X.mg c P) (hcode : X.env.code = .ref c) (hdef : defaultsOf params X.env = ([], [])) (hfr : ∀ y ∈ scope.names, y.2 = .free → X.env.scope.names.lookup y.1 = some .cell ∨ X.env.scope.names.lookup y.1 = some .free) :
    PE X (.Lambda params body scope pos) (tLamC X P params body scope) :=
  ⟨fun pins s σ H Q I ⟨F, sF, hF, hT, h⟩ => lam_makeC I TB hcode sF hF hT hdef (fun y hy e => I.ok.has y.1 (hfr y hy e)) fun f c' F1 H1 s' md nf I' => ⟨.ref f, _, I', rfl, h F1 H1 c' f md nf⟩⟩
end
section
variable {M : Mach} {X : Cx} {N : List Str} {sc : Scope} {vb lb gb : Str → Bool} {B : Bs} {G : Sl} {O O0 Ob : Own} {e a b : Expr} {es : List Expr} {pos p : Pos} {x : Str} {k i : Nat} {c P : Addr} {params : Arguments} {body : Expr} {scope : Scope}
def frB (sc scope : Scope) : Bool := scope.names.all fun y => !decide (y.2 = .free) || decide (sc.names.lookup y.1 = some .cell) || decide (sc.names.lookup y.1 = some .free)
theorem we_lamC {Φ : D → Own → Prop} (C : Cxt M X N sc vb lb gb) (TB : TabB M.base M.mg c P) (hcode : X.env.code = .ref c) (hm : (P, OV.tab (X.env.qual ++ "<lambda>")) ∈ O) (hfree : frB sc scope = true)
    (q : ∀ f, Φ (.obj f) ((f, .lamc ⟨params, body, scope, X.env.qual ++ "<lambda>"⟩ (cloFrom X.env.cells scope.names [])) :: O)) (hdef : defaultsOf params X.env = ([], []) := by rfl) : WE X B G O (.Lambda params body scope pos) Φ := fun F σ H S Q kk => by
  have hM := C.hM
  subst hM
  have hf : ∀ y ∈ scope.names, y.2 = .free → X.env.scope.names.lookup y.1 = some .cell ∨ X.env.scope.names.lookup y.1 = some .free := fun y hy e => by
    have z := List.all_eq_true.mp hfree y hy
    rw [C.hsc]
    simp only [Bool.or_eq_true, Bool.not_eq_true', decide_eq_false_iff_not, decide_eq_true_eq] at z
    rcases z with (z | z) | z
    · exact absurd e z
    · exact .inl z
    · exact .inr z
  obtain ⟨hFP, hT⟩ := S.own _ hm
  refine sem (pe_lamC TB hcode hdef hf) ⟨F, S.ex, hFP, hT, fun F1 H1 c' f md nf => ?_⟩
  exact kk _ F1 _ _ _ ((S.made hm md).allocOwn nf (ov := .lamc ⟨params, body, scope, X.env.qual ++ "<lambda>"⟩ (cloFrom X.env.cells scope.names [])) ⟨c', upd_same, md.code⟩) md.sF (.obj f) (q f)
theorem we_permd {Φ : D → Own → Prop} (h : WE X B G O e fun d O' => ∃ O'', O'.Perm O'' ∧ Φ d O'') : WE X B G O e Φ := fun F σ H S Q k => h F σ H S Q fun v F' H' d O' S' e' r p => by
  obtain ⟨O'', hp, p⟩ := p
  exact k v F' H' d O'' (S'.perm hp) e' r p
/-- a pure call that is handed owned objects -/
theorem pv_callP {Oa Ob : Own} {ds : List D} {sp : DSp} {v : D} (hp : O.Perm (Oa ++ Ob)) (C : Cxt M X N sc vb lb gb) (f : GFn M x k sp) (hr : Room k X.A) (hg : gb x = true) (ha : PAv X B G O (e :: es) ds) (h : ∀ Φ Ψ, Φ v Oa → sp ds Oa Φ Ψ)
    (he : starEach (e :: es) X.env = (false, eval e X.env) :: starEach es X.env := by exact star_cons rfl) (hpl : (backTo pos (starEach es X.env)).any (·.1) = false := by rfl) : PEv X B G O (.Call (.Name x p) (e :: es) [] pos) v :=
  we_permd (we_call C f hr takes_no hg (wa_pv ha ⟨Oa, Ob, hp, h _ _ ⟨O, hp.symm, rfl, rfl⟩⟩) he hpl)
theorem pt_leLe {b2 : Expr} {i j l : Int} (ha : PEv X B G O a (.int i)) (hb : PEv X B G O b (.int j)) (hc : PEv X B G O b2 (.int l)) (hm : lastMarks [.LtE, .LtE] [b, b2] = false := by with_unfolding_all rfl) : PTv X B G O (.Compare a [.LtE, .LtE] [b, b2] pos) (decide (i ≤ j) && decide (j ≤ l)) := ptv_chain op_le op_le ha hb hc hm
/-- what is known of the cells that are lent -/
structure LentC (X : Cx) (xs : NDs) (ca : Str → Addr) : Prop where
  at_ : ∀ q ∈ xs, X.env.cells.lookup q.1 = some (ca q.1)
theorem LentC.clo {X : Cx} {xs : NDs} {ca : Str → Addr} (l : LentC X xs ca) {names : List (Str × NameKind)} {ys : NDs} (hf : ∀ q ∈ ys, (q.1, NameKind.free) ∈ names) (hs : ∀ q ∈ ys, q.1 ∈ xs.map (·.1)) : ∀ q ∈ ys, (cloFrom X.env.cells names []).lookup q.1 = some (ca q.1) := fun q hq => by
  obtain ⟨r, hr, e⟩ := List.mem_map.mp (hs q hq)
  have z := l.at_ r hr
  rw [e] at z
  obtain ⟨c, hc⟩ := mem_lookup (cloFrom_has (cells := X.env.cells) (acc := []) (hf q hq))
  rcases cloFrom_mem (PySem.mem_of_lookup hc) with hm | ⟨_, h2⟩
  · cases hm
  · rw [hc, h2, z] <;> rfl
theorem clo_names {cells : List (Str × Addr)} {names : List (Str × NameKind)} {y : Str} {c : Addr} (h : (cloFrom cells names []).lookup y = some c) : (y, NameKind.free) ∈ names := by
  rcases cloFrom_mem (PySem.mem_of_lookup h) with hm | ⟨h1, _⟩
  · cases hm
  · exact h1
/-- .. of a lambda that was made here, this frame's cells lent -/
theorem vfn_clo {f : Addr} {q0 : Str} {ps gl : List Str} {xs0 : NDs} {ca : Str → Addr} {co : Str → Obj} {Or : Own} {dom : List D → D → Prop} (lc : LentC X xs0 ca) (ns nn : List Str) (xs : NDs) (hns : xs.map (·.1) = ns) (hnn : ps ++ ns = nn) (hS : lamVB scope ps ns = true) (hsc : lamSc scope nn gl = true)
    (hb : ∀ (cl : List (Str × Addr)) (c' : Addr) (pm ctv : Value) (us : List Value), us.length = ps.length → bindArgs (PySem.W.kla_fn "<lambda>" q0 params body scope cl pm (.ref c') ctv) ⟨us, []⟩ = pure (ps.zip us)) (hsub : ∀ q ∈ xs, q.1 ∈ xs0.map (·.1))
    (hp : O0.Perm (cels xs ca co ++ Or)) (hm : (f, OV.lamc ⟨params, body, scope, q0⟩ (cloFrom X.env.cells scope.names [])) ∈ Or) (hlen : ∀ ds v, dom ds v → ds.length = ps.length)
    (hbody : ∀ (X' : Cx) (B' : Bs) (ds : List D) (v : D), dom ds v → LamB M X' B' nn nn gl scope k (fun _ _ _ => False) → PEv X' B' (ds.map some ++ xs.map fun p => some p.2) Or body v) :
    VFn M (k + 1) f (spFun O0 dom) := by
  subst hnn
  have V := lamVS_by hS
  exact vfn_lam ns xs hns hS hsc (hb _) (lc.clo (fun q hq => PySem.mem_of_lookup (V.fre q.1 (by rw [← hns]; exact List.mem_map.mpr ⟨q, hq, rfl⟩))) hsub) (fun y c e => V.free _ (clo_names e) rfl) hp hm hlen hbody
/-- x(a, ..), x a def of the module, cells of this frame lent; a pure call -/
theorem we_callC {sp : DSp} {Φ : D → Own → Prop} (ns : List Str) (xs : NDs) (C : Cxt M X N sc vb lb gb) (f : GFn M x k sp) (hr : Room k X.A) (hg : gb x = true) (hx : ∀ q ∈ xs, VarAt N G q.1 q.2) (hns : xs.map (·.1) = ns) (hk : ns.all (fun q => lb q && decide (sc.names.lookup q = some .cell)) = true) (nd : ns.Nodup)
    (h : WA X B G O (e :: es) fun ds O1 => ∀ (ca : Str → Addr) (co : Str → Obj), LentC X xs ca → ∃ (Oa Ob : Own) (v : D), (cels xs ca co ++ O1).Perm (Oa ++ Ob) ∧ (∀ Φ' Ψ', Φ' v Oa → sp ds Oa Φ' Ψ') ∧ Φ v O1)
    (he : starEach (e :: es) X.env = (false, eval e X.env) :: starEach es X.env := by exact star_cons rfl) (hpl : (backTo pos (starEach es X.env)).any (·.1) = false := by rfl) : WE X B G O (.Call (.Name x p) (e :: es) [] pos) Φ := fun F σ H S Q kk => by
  have hM := C.hM
  subst hM
  subst hns
  obtain ⟨f, fd, ps, h1, h2, h3, h4⟩ := f
  refine ⟨fun pins s I => ?_⟩
  refine wpAny_Call_Name_kw (ld_glob I (C.gl x hg).1 h1 ?_ (C.gl x hg).2)
  have hA := h F σ H S (fun vs H1 => ∃ F1 ds O1, Sat X.K B G O1 F1 σ H1 ∧ Same F F1 ∧ Reps X.K F1 vs ds ∧ ∀ (ca : Str → Addr) (co : Str → Obj), LentC X xs ca → ∃ (Oa Ob : Own) (v : D), (cels xs ca co ++ O1).Perm (Oa ++ Ob) ∧ (∀ Φ' Ψ', Φ' v Oa → sp ds Oa Φ' Ψ') ∧ Φ v O1) fun vs F1 H1 ds O1 S1 e1 r1 p1 => ⟨F1, ds, O1, S1, e1, r1, p1⟩
  refine PySem.W.callWith_K (h₀ := X.base) I.ok.mod.kin h2 (thn (pa_sem.run pos pins s σ H _ I hA) fun us s1 ⟨vs, H1, I1, r, F1, ds, O1, S1, e1, r1, p1⟩ => ⟨I1.kIn, ?_⟩) he hpl
  -- the cells
  have cell : ∀ q ∈ xs, ∃ c o u v, X.env.cells.lookup q.1 = some c ∧ s1.heap.get? c = some o ∧ o.data = .cell (some u) ∧ RelV v u ∧ Rep X.K F1 v q.2 ∧ H1 c = none ∧ c ∉ frs X.stack ∧ X.base.get? c = none := fun q hq => by
    have z := List.all_eq_true.mp hk q.1 (List.mem_map.mpr ⟨q, hq, rfl⟩)
    rw [Bool.and_eq_true, decide_eq_true_eq] at z
    obtain ⟨i, g1, g2⟩ := (hx q hq).ix
    obtain ⟨v, ev, rv⟩ := S1.slot i _ g2
    have hkc : X.env.scope.names.lookup q.1 = some .cell := by rw [C.hsc]; exact z.2
    have hfn : X.fn q.1 = true := (C.loc q.1 z.1).2.elim id fun n => by rw [hkc] at n; cases n
    obtain ⟨c, o, u, a1, a2, a3, a4, a5, a6, a7⟩ := own_cell I1 (by rw [C.hN]; exact g1) ev hkc hfn
    exact ⟨c, o, u, v, a1, a2, a3, a4, rv, a5, a6, a7⟩
  let ca : Str → Addr := fun y => (X.env.cells.lookup y).getD 0
  let co : Str → Obj := fun y => (s1.heap.get? (ca y)).getD { cls := .none, data := .fields #[] }
  have hc : ∀ q ∈ xs, X.env.cells.lookup q.1 = some (ca q.1) ∧ s1.heap.get? (ca q.1) = some (co q.1) ∧ H1 (ca q.1) = none ∧ ca q.1 ∉ frs X.stack ∧ X.base.get? (ca q.1) = none ∧ ∃ u v, (co q.1).data = .cell (some u) ∧ RelV v u ∧ Rep X.K F1 v q.2 := fun q hq => by
    obtain ⟨c, o, u, v, a1, a2, a3, a4, a5, a6, a7, a8⟩ := cell q hq
    have ec : ca q.1 = c := by show (X.env.cells.lookup q.1).getD 0 = c; rw [a1]; rfl
    have eo : co q.1 = o := by show (s1.heap.get? (ca q.1)).getD _ = o; rw [ec, a2]; rfl
    rw [ec, eo]
    exact ⟨a1, a2, a6, a7, a8, u, v, a3, a4, a5⟩
  have hnd : (cadr xs ca).Nodup := by
    have : ∀ {l : NDs}, (∀ q ∈ l, q ∈ xs) → (l.map (·.1)).Nodup → (cadr l ca).Nodup := fun {l} => by
      induction l with
      | nil => exact fun _ _ => List.nodup_nil
      | cons q l ih =>
        intro hs n
        obtain ⟨n1, n2⟩ := List.nodup_cons.mp (show (q.1 :: l.map (·.1)).Nodup from n)
        refine List.nodup_cons.mpr ⟨fun hm => ?_, ih (fun y hy => hs y (List.mem_cons_of_mem _ hy)) n2⟩
        obtain ⟨y, hy, e⟩ := List.mem_map.mp hm
        have z1 := (hc q (hs q List.mem_cons_self)).1
        have z2 := (hc y (hs y (List.mem_cons_of_mem _ hy))).1
        have e : ca y.1 = ca q.1 := e
        rw [e] at z2
        have := I1.ok.inj _ _ _ z1 z2
        exact n1 (List.mem_map.mpr ⟨y, hy, this.symm⟩)
    exact this (fun _ h => h) nd
  obtain ⟨Oa, Ob, v, hp, hsp, q⟩ := p1 ca co ⟨fun q hq => (hc q hq).1⟩
  have SL := S1.lend (ca := ca) (co := co) hnd (fun q hq => (hc q hq).2.2.1) fun q hq => (hc q hq).2.2.2.2.2
  refine run_fnL (ls := lnt xs ca co) h4 hr h3 I1 ⟨by rw [lnt_cadr]; exact hnd, fun q hq => ?_⟩ r ?_
  · obtain ⟨y, hy, rfl⟩ := List.mem_map.mp hq
    obtain ⟨_, b1, b2, b3, b4, _⟩ := hc y hy
    exact ⟨b1, b2, b3, b4⟩
  · refine liftSp_mono (post_run (Φ := fun d O' => d = v ∧ O'.Perm (cels xs ca co ++ O1)) (Ψ := fun _ _ _ => False) SL r1 ⟨Oa, Ob, hp, hsp _ _ ⟨rfl, hp.symm⟩⟩ fun v2 F' H' d O' S' e' r' ⟨z1, z2⟩ => ?_) fun cls dd H' w => ?_
    · have S2 := S'.perm z2
      refine ⟨fun q hq => ?_, ?_⟩
      · obtain ⟨y, hy, rfl⟩ := List.mem_map.mp hq
        exact (S2.own _ (List.mem_append_left _ (List.mem_map.mpr ⟨y, hy, rfl⟩))).2.1
      · rw [lnt_cadr]
        subst z1
        exact kk v2 F' _ d O1 S2.unlend (e1.trans e') r' q
    · obtain ⟨_, _, _, _, _, _, w⟩ := w
      exact w
end
end Dl
set_option Elab.async false
set_option linter.all false
set_option maxRecDepth 100000
set_option maxHeartbeats 2000000
namespace Dl
open PySem PySem.Spec PyProof.Rows L2
end Dl
set_option Elab.async false
set_option linter.all false
set_option maxRecDepth 100000
set_option maxHeartbeats 2000000
namespace Dl
open PySem PySem.Spec PyProof.Rows L2
section
variable {M : Mach} {X : Cx} {N : List Str} {sc : Scope} {vb lb gb : Str → Bool} {B : Bs} {G : Sl} {O O' : Own} {e a b ke : Expr} {es : List Expr} {pos p kpos : Pos} {x nm : Str} {k : Nat} {sp : DSp} {ds : List D} {d dk v : D}
theorem pv_callKP {Oa Ob : Own} (hp : O.Perm (Oa ++ Ob)) (C : Cxt M X N sc vb lb gb) (f : GFnK M x [nm] k sp) (hr : Room k X.A) (hg : gb x = true) (ha : PAv X B G O (e :: es) ds) (hk : PEv X B G O ke dk) (h : ∀ Φ Ψ, Φ v Oa → sp (ds ++ [dk]) Oa Φ Ψ)
    (hall : (backToKw pos (keywordEach [⟨some nm, ke, kpos⟩] X.env)).all (·.1.isSome) = true := by rfl) (hks : (backToKw pos (keywordEach [⟨some nm, ke, kpos⟩] X.env)).filterMap (·.1) = [nm] := by rfl)
    (he : starEach (e :: es) X.env = (false, eval e X.env) :: starEach es X.env := by exact star_cons rfl) (hpl : ((backTo pos (starEach (e :: es) X.env)).any (·.1) || (backToKw pos (keywordEach [⟨some nm, ke, kpos⟩] X.env)).any (·.1.isNone)) = false := by rfl) : PEv X B G O (.Call (.Name x p) (e :: es) [⟨some nm, ke, kpos⟩] pos) v :=
  we_permd (we_callK C f hr takes_no hg (wa_pv ha (wk_cons (we_pv hk (wk_nil ⟨rfl, Oa, Ob, hp, h _ _ ⟨O, hp.symm, rfl, rfl⟩⟩)))) hall hks he hpl)
/-- data compared with themselves -/
theorem eqv_same {p : PyData} (h : SeqAt.shaped p = true) : PyData.eqv p p = true := PySem.SeqAt.eqv_refl _ (Bool.and_eq_true_iff.mp h).1
theorem pt_neSame (C : Cxt M X N sc vb lb gb) (ha : PEv X B G O a d) (hb : PEv X B G O b d) (s : SeqAt.shaped (toPy d) = true) : PTv X B G O (.Compare a [.NotEq] [b] pos) false := PTv.to (pt_neD C ha hb .val .val s s) (by rw [eqv_same s] <;> rfl)
theorem pv_eqSame (C : Cxt M X N sc vb lb gb) (ha : PEv X B G O a d) (hb : PEv X B G O b d) (s : SeqAt.shaped (toPy d) = true) : PEv X B G O (.Compare a [.Eq] [b] pos) (.bl true) := PEv.to (pv_eqD C ha hb .val .val s s) (by rw [eqv_same s])
end
end Dl
set_option Elab.async false
set_option linter.all false
set_option maxRecDepth 100000
set_option maxHeartbeats 2000000
namespace Hz
open PySem PySem.Spec PyProof.Rows L2 HotX L2H Dl
/-- at a an exception object of the class D -/
def ExAt (H : Hp) (a D : Addr) : Option Addr → Prop
  | none => H a = some (ExO (.ref D) a)
  | some d => H a = some (exo a D (some d)) ∧ ∃ gs, H d = some (exd d gs)
theorem exAt_inst {P : Program} {w : World} {H : Hp} {h : Heap} {a D : Addr} {dx : Option Addr} (x : HOk P w H h) (e : ExAt H a D dx) : ∃ ox od, PySem.W.InstAt h a ox D od ∧ (dx = none → od = none) ∧ (dx ≠ none → od ≠ none) := by
  cases dx with
  | none =>
    obtain ⟨⟨oe, vs, ho, hz, hd, h1, _⟩, _, _⟩ := x a _ e
    obtain ⟨oc, od, oda, osl⟩ := oe
    obtain ⟨z1, z2⟩ := hz
    dsimp only at z1 z2 hd
    subst z1 z2 hd
    exact ⟨_, none, ⟨ho, rfl, rfl, trivial⟩, fun _ => rfl, fun h => absurd rfl h⟩
  | some d =>
    obtain ⟨e1, gs, e2⟩ := e
    obtain ⟨⟨t1, ho⟩, _, _⟩ := x a _ e1
    obtain ⟨⟨mA, hns, hr⟩, _, _⟩ := x d _ e2
    obtain ⟨od, hod, hl⟩ := lookIn_ns hns
    exact ⟨_, some od, ⟨ho, rfl, rfl, hod⟩, fun h => (nomatch h), fun _ h => (nomatch h)⟩
/-- isinstance(e, c), e an exception object -/
def rIsO (K : PySem.W.Frag) : List V → Hp → VK → Prop := fun xs H Q => ∃ (a D : Addr) (dx : Option Addr) (c : V) (cv : Value) (b : Bool), xs = [.ref a, c] ∧ ExcC K D ∧ ExAt H a D dx ∧ (∀ u, RelV c u → u = cv) ∧ PySem.W.kitOne K (.ref D) cv = some b ∧ Q (.bl b) H
theorem call_isO {X : Cx} : CallR X (.builtin "isinstance") (rIsO X.K) := by
  rintro pins s σ H xs us Q I r ⟨a, D, dx, c, cv, b, rfl, C, ex, hcv, e, q⟩
  obtain ⟨u, rfl, rt⟩ : ∃ u, us = [.ref a, u] ∧ RelV c u := by
    cases r with
    | cons rx rr => cases rr with
      | cons rt rr => cases rr; cases rx; exact ⟨_, rfl, rt⟩
  obtain rfl := hcv _ rt
  obtain ⟨ox, od, J, _, _⟩ := exAt_inst I.hok ex
  cases od with
  | none => exact PySem.W.kia_one (PySem.W.handS_kitx_exc C.hg C.hk C.hs C.hd C.ha C.hn C.ht C.hm) I.kIn J e (fun z => nomatch z) fun tk => ⟨.bl b, H, I.kept (t' := tk) fun _ _ z => z, rfl, q⟩
  | some od => exact PySem.W.kia_one (kitx_excD C.hg C.hk C.hs C.hd C.ha C.hn C.ht C.hm) I.kIn J e (fun z => nomatch z) fun tk => ⟨.bl b, H, I.kept (t' := tk) fun _ _ z => z, rfl, q⟩
/-- e.f, e an exception object -/
def tXo (K : PySem.W.Frag) (f : Str) (te : TE) : TE := fun σ H Q => te σ H fun x H1 => ∃ (a C d : Addr) (fs : List (Str × V)) (v : V), x = .ref a ∧ XfC K C ∧ PySem.W.findIn K (.ref C) f = some none ∧ H1 a = some (exo a C (some d)) ∧ H1 d = some (exd d fs) ∧ fs.lookup f = some v ∧ Q v H1
theorem pe_xo {X : Cx} {e : Expr} {te : TE} {pos : Pos} {n : Str} (he : PE X e te) (hb : attributeBase e n X.env (eval e X.env) = eval e X.env) : PE X (.Attribute e n pos) (tXo X.K n te) := by
  refine ⟨fun pins s σ H Q I h => ?_⟩
  refine attr_of hb (thn (he.run pins s σ H _ I h) fun u s1 hh => ?_)
  obtain ⟨x, H1, I1, rx, a, C, d, fs, v, ex, T, hno, e1, e2, l, q⟩ := hh
  subst ex
  obtain rfl : u = Value.ref a := rx
  obtain ⟨⟨t1, ho⟩, _, _⟩ := I1.hok a _ e1
  obtain ⟨⟨mA, hns, hr⟩, _, _⟩ := I1.hok d _ e2
  obtain ⟨od, hod, hl⟩ := lookIn_ns hns
  obtain ⟨u, hu, ru⟩ := RelO.some_of (v := v) (o := mA n) (by rw [← l]; exact hr n)
  have J : PySem.W.InstAt s1.heap a { cls := .ref C, dict := some d, data := .fields #[.ref t1, .none, .none, .none, .bool false, .none] } C (some od) := ⟨ho, rfl, rfl, hod⟩
  exact HandSPX.exc_get I1.kIn J T.ga T.gg T.exC (PySem.W.findObj_own T.hdC hno rfl (by rw [hl, hu])) (handed_of ru) ⟨v, H1, I1.tok _, ru, q⟩
/-- C(e, ..) as a value, C's own __init__ keeping sp -/
def tMkV (C : Addr) (sp : Sp) (dvs : List V) (ta : TA) : TE := fun σ H Q => ta σ H fun vs H1 => vs.length ≤ 1000 ∧ ∀ a, H1 a = none → sp (.ref a :: (vs ++ dvs)) (upd H1 a (exo a C none)) (fun v H2 => v = .non ∧ Q (.ref a) H2) (fun _ _ _ => False)
section
variable {X : Cx} {o e : Expr} {es : List Expr} {to te : TE} {ta : TA} {f x : Str} {p p' p1 p2 pos : Pos} {B : Addr}
theorem pe_oexV {C fI : Addr} {k : Nat} {fd : FuncData} {ps : List Str} {sp : Sp} {ds : List Value} {dvs : List V} (T : OexC X.K C) (iC : PySem.W.findIn X.K (.ref C) "__init__" = some (some (.ref fI))) (tI : PySem.W.typeIn X.K (.ref fI) = some (.type "function"))
    (F1 : FnOk X.prog X.w X.K X.mg X.base (L2N.CX X.prog X.w) k fI fd ps sp) (hr : Room (k + 1) X.A) (hb : Binds X.K fd ps ds) (hd : Vals dvs ds) (hg : Gl X x) (hm : X.mg x = some (.ref C)) (ha : PA X (e :: es) ta)
    (hdb : (x == ("__debug__" : Str)) = false) (he : starEach (e :: es) X.env = (false, eval e X.env) :: starEach es X.env) (hpl : (backTo pos (starEach es X.env)).any (·.1) = false) :
    PE X (.Call (.Name x p) (e :: es) [] pos) (tMkV C sp dvs ta) := by
  refine ⟨fun pins s σ H Q I h => ?_⟩
  obtain ⟨nm, q, N, bs, bm, sn, sub, ab, col, dd, k0, k1, k2, k3, k5, hC, hbm⟩ := T.cls
  refine wpAny_Call_Name_kw (ld_glob I hg hm ?_ hdb)
  refine PySem.W.callWith_K (h₀ := X.base) I.ok.mod.kin T.kC (thn (ha.run pos pins s σ H _ I h) fun us s1 ⟨vs, H1, I1, r1, hz, q1⟩ => ⟨I1.kIn, ?_⟩) he hpl
  show wpAny _ _ (call (.ref C) us) _ _ _
  obtain ⟨hp, g, dr, tk, os⟩ := s1
  have hsz : hp.objs.size ≤ hp.objs.size + 1 := Nat.le_succ _
  have hn : H1 (hp.objs.size + 1) = none := I1.hok.fresh hsz
  have hq := q1 (hp.objs.size + 1) hn
  have kk : ∀ b o, hp.get? b = some o → ((hp.push (PySem.W.kdv_tup us)).push (PySem.HandSPX.excO C hp.objs.size)).get? b = some o := fun b o e => Heap.get?_push_of_some _ (Heap.get?_push_of_some _ e)
  have hget : ((hp.push (PySem.W.kdv_tup us)).push (PySem.HandSPX.excO C hp.objs.size)).get? (hp.objs.size + 1) = some (PySem.HandSPX.excO C hp.objs.size) := by heap_get
  have I2 : Inv X pins σ (upd H1 (hp.objs.size + 1) (exo (hp.objs.size + 1) C none)) ⟨(hp.push (PySem.W.kdv_tup us)).push (PySem.HandSPX.excO C hp.objs.size), g, dr, tk, os⟩ :=
    I1.laid (t' := tk) (a := hp.objs.size + 1) (o := exo (hp.objs.size + 1) C none) (h' := (hp.push (PySem.W.kdv_tup us)).push (PySem.HandSPX.excO C hp.objs.size)) kk hsz (exo_ok hget)
  have r2 : Vals (V.ref (hp.objs.size + 1) :: (vs ++ dvs)) (Value.ref (hp.objs.size + 1) :: (us ++ ds)) := .cons rfl (r1.append hd)
  have hl : (Value.ref (hp.objs.size + 1) :: us ++ ds).length = ps.length := by
    have e := r2.length
    rw [F1.len _ _ _ _ hq] at e
    exact e.symm
  have hus : us.length ≤ sizeLine := by
    rw [← Paired.length r1, sizeLine_eq]
    omega
  refine wpAny_call (PySem.HandSPX.call_own F.excBase_ValueError (fun Y => PySem.HandSPX.refsVE_contains Y bm hbm) (I1.kIn _ _ hC) (PySem.W.looks_findIn I1.kIn iC) (fun self => PySem.W.bind_fn I1.kIn self tI) hus
    (codeAny_mono (F1.run _ X.stack _ _ ⟨Value.ref (hp.objs.size + 1) :: us, []⟩ (Value.ref (hp.objs.size + 1) :: (us ++ ds)) _ _ (fun _ _ _ => False) (hr.make C us []) (I2.env0.make C us []) (hb _ (Value.ref (hp.objs.size + 1) :: us) I2.kIn hl) r2 hq) fun r s' hq' => ?_))
  cases r with
  | error er =>
    obtain ⟨_, _, _, _, _, _, _, _, _, _, _, _, z⟩ := (show L2N.CX X.prog X.w _ _ _ _ _ _ from hq')
    exact z.elim
  | ok fl =>
    cases fl with
    | ret u =>
      obtain ⟨v, H', I3, rv, ev, q3⟩ := I2.after hq'
      subst ev
      exact ⟨rv, ⟨V.ref (hp.objs.size + 1), H', I3, rfl, q3⟩⟩
    | next => exact False.elim hq'
    | brk => exact False.elim hq'
    | cont => exact False.elim hq'
end
end Hz
namespace Dl
open PySem PySem.Spec PyProof.Rows L2
section
variable {M : Mach} {X : Cx} {N : List Str} {sc : Scope} {vb lb gb : Str → Bool} {B : Bs} {G : Sl} {O : Own} {e a b : Expr} {es : List Expr} {pos p p2 p3 : Pos} {x f m : Str} {k j : Nat} {i : Int} {q Dc c : Addr} {dx : Option Addr} {fs : List (Str × D)} {r : Bool}
theorem exRep_at {K : PySem.W.Frag} {F H : Hp} (e : Same F H) (h : ExRep K F H q Dc fs dx) : Hz.ExAt H q Dc dx := by
  cases dx with
  | none => exact h.2
  | some d => obtain ⟨h1, gs, h2, _⟩ := h; exact ⟨h1, gs, e _ _ h2⟩
/-- isinstance(e, x), x an own class -/
theorem pv_isO (C : Cxt M X N sc vb lb gb) (h1 : M.mg "isinstance" = none) (g1 : gb "isinstance" = true) (ha : PEv X B G O a (.obj q)) (hm : (q, OV.ex Dc dx fs) ∈ O) (ec : ExcC M.K Dc) (gc : gb x = true) (mc : M.mg x = some (.ref c)) (hk : PySem.W.kitOne M.K (.ref Dc) (.ref c) = some r)
    (sa : Plain1 a := by exact fun _ _ => star_cons rfl) : PEv X B G O (.Call (.Name "isinstance" p) [a, .Name x p2] [] pos) (.bl r) := fun F σ H S Q kk => by
  have hM := C.hM
  subst hM
  refine sem (pe_callB Hz.call_isO (C.gl _ g1).1 h1 (by decide +kernel) (pa_cons pe_sem (pa_cons (pe_glob (C.gl _ gc).1 mc (v := .ref c) rfl (C.gl _ gc).2) pa_nil (star_cons rfl)) (sa _ _)) (by decide) (C.gl _ g1).2 (sa _ _) rfl) ?_
  refine ha F σ H S _ fun v F1 H1 d1 O1 S1 e1 r1 p1 => ?_
  obtain ⟨rfl, rfl⟩ := p1
  cases r1
  exact ⟨q, Dc, dx, .ref c, .ref c, r, rfl, ec, exRep_at S1.ex (S1.own _ hm).2, fun _ z => z, hk, kk _ F1 _ _ _ S1 e1 (.bl _) ⟨rfl, rfl⟩⟩
/-- isinstance(e, T), T a built-in class -/
theorem pv_isOT {T : String} (C : Cxt M X N sc vb lb gb) (h1 : M.mg "isinstance" = none) (g1 : gb "isinstance" = true) (ha : PEv X B G O a (.obj q)) (hm : (q, OV.ex Dc dx fs) ∈ O) (ec : ExcC M.K Dc) (gc : gb x = true) (mc : M.mg x = none) (bc : bootBuiltins x = some (.type T)) (nc : x ≠ "__name__") (hk : PySem.W.kitOne M.K (.ref Dc) (.type T) = some r)
    (sa : Plain1 a := by exact fun _ _ => star_cons rfl) : PEv X B G O (.Call (.Name "isinstance" p) [a, .Name x p2] [] pos) (.bl r) := fun F σ H S Q kk => by
  have hM := C.hM
  subst hM
  refine sem (pe_callB Hz.call_isO (C.gl _ g1).1 h1 (by decide +kernel) (pa_cons pe_sem (pa_cons (pe_bltn (C.gl _ gc).1 mc bc (v := .ty T) rfl nc (C.gl _ gc).2) pa_nil (star_cons rfl)) (sa _ _)) (by decide) (C.gl _ g1).2 (sa _ _) rfl) ?_
  refine ha F σ H S _ fun v F1 H1 d1 O1 S1 e1 r1 p1 => ?_
  obtain ⟨rfl, rfl⟩ := p1
  cases r1
  exact ⟨q, Dc, dx, .ty T, .type T, r, rfl, ec, exRep_at S1.ex (S1.own _ hm).2, fun _ z => z, hk, kk _ F1 _ _ _ S1 e1 (.bl _) ⟨rfl, rfl⟩⟩
theorem preps_lookup {κ : Type} [BEq κ] [LawfulBEq κ] {K : PySem.W.Frag} {F : Hp} {y : κ} {d : D} : ∀ {gs : List (κ × V)} {fs : List (κ × D)}, PReps K F gs fs → fs.lookup y = some d → ∃ v, gs.lookup y = some v ∧ Rep K F v d
  | _, _, .nil, h => by cases h
  | (g1, v1) :: gs, (f1, d1) :: fs, .cons h r, hl => by
    obtain ⟨e, rv⟩ := h
    dsimp only at e rv
    subst e
    rw [List.lookup_cons] at hl ⊢
    cases hb : y == g1 with
    | true => rw [hb] at hl; cases hl; exact ⟨v1, rfl, rv⟩
    | false => rw [hb] at hl; exact preps_lookup r hl
/-- e.f of an exception object -/
theorem pv_xat {d0 : Addr} {d : D} (C : Cxt M X N sc vb lb gb) (ha : PEv X B G O a (.obj q)) (hm : (q, OV.ex Dc (some d0) fs) ∈ O) (T : XfC M.K Dc) (hno : PySem.W.findIn M.K (.ref Dc) f = some none) (hl : fs.lookup f = some d) (hb : attributeBase a f X.env (eval a X.env) = eval a X.env := by rfl) : PEv X B G O (.Attribute a f pos) d := fun F σ H S Q kk => by
  have hM := C.hM
  subst hM
  refine sem (Hz.pe_xo pe_sem hb) ?_
  refine ha F σ H S _ fun v F1 H1 d1 O1 S1 e1 r1 p1 => ?_
  obtain ⟨rfl, rfl⟩ := p1
  cases r1
  obtain ⟨_, h1, gs, h2, h3⟩ := S1.own _ hm
  obtain ⟨v, hv, rv⟩ := preps_lookup h3 hl
  exact ⟨q, Dc, d0, gs, v, rfl, T, hno, h1, S1.ex _ _ h2, hv, kk _ F1 _ _ _ S1 e1 rv ⟨rfl, rfl⟩⟩
/-- X("m"), an own class without own __init__, as a value -/
theorem we_exc1 {Φ : D → Own → Prop} (C : Cxt M X N sc vb lb gb) (hx : GExc M x) (hg : gb x = true) (h : ∀ (c q : Addr), M.mg x = some (.ref c) → Φ (.obj q) ((q, .ex c none []) :: O)) : WE X B G O (.Call (.Name x p) [.Constant (.str m) j p2] [] pos) Φ := fun F σ H S Q kk => by
  obtain ⟨c, hm, f⟩ := hx
  have hM := C.hM
  subst hM
  refine sem (pe_exc1 PySem.F.excBase_ValueError f.q hm f.k (C.gl x hg).1 pe_str (star_cons rfl) (C.gl x hg).2) ?_
  exact fun a ha => kk _ F _ _ _ (S.allocOwn ha (ov := .ex c none []) ⟨rfl, upd_same⟩) (Same.refl _) (.obj a) (h c a hm)
/-- X(i), an own class whose own __init__ keeps one attribute, as a value -/
theorem we_excO {Φ : D → Own → Prop} (C : Cxt M X N sc vb lb gb) (hr : Room (k + 1) X.A) (hx : GExcO M x f k) (hg : gb x = true) (ha : PEv X B G O a (.int i)) (h : ∀ (c q d0 : Addr), M.mg x = some (.ref c) → Φ (.obj q) ((q, .ex c (some d0) [(f, .int i)]) :: O))
    (sa : Plain1 a := by exact fun _ _ => star_cons rfl) : WE X B G O (.Call (.Name x p) [a] [] pos) Φ := fun F σ H S Q kk => by
  obtain ⟨Cc, fI, fd, hm, T, iC, tI, hno, F1, hb⟩ := hx
  have hM := C.hM
  subst hM
  refine sem (Hz.pe_oexV (dvs := []) (ds := []) T iC tI F1 hr hb .nil (C.gl x hg).1 hm (pa_cons pe_sem pa_nil (sa _ _)) (C.gl x hg).2 (sa _ _) rfl) ?_
  refine ha F σ H S _ fun v F1 H1 d1 O1 S1 e1 r1 p1 => ?_
  obtain ⟨rfl, rfl⟩ := p1
  cases r1
  refine ⟨Nat.le_of_ble_eq_true rfl, fun a0 ha0 => ⟨a0, Cc, .int i, rfl, T, hno, upd_same, fun dd hd ne => ⟨rfl, ?_⟩⟩⟩
  rw [upd_ne ne] at hd
  have eH : upd (upd (upd H1 a0 (exo a0 Cc none)) dd (exd dd [(f, V.int i)])) a0 (exo a0 Cc (some dd)) = upd (upd H1 dd (exd dd [(f, V.int i)])) a0 (exo a0 Cc (some dd)) := by
    funext b
    by_cases hb2 : b = a0
    · subst hb2
      rw [upd_same, upd_same]
    · rw [upd_ne hb2, upd_ne hb2]
      by_cases hb : b = dd
      · subst hb
        rw [upd_same, upd_same]
      · rw [upd_ne hb, upd_ne hb, upd_ne hb2]
  have S2 := S1.alloc hd (exd dd [(f, V.int i)])
  have ha1 : upd H1 dd (exd dd [(f, V.int i)]) a0 = none := by rw [upd_ne (fun z => ne z.symm)]; exact ha0
  have S3 := S2.allocOwn ha1 (o := exo a0 Cc (some dd)) (ov := .ex Cc (some dd) [(f, .int i)]) ⟨upd_same, [(f, .int i)], upd_same, .cons ⟨rfl, .int i⟩ .nil⟩
  have hF : F1 dd = none := S1.ex.free hd
  exact kk _ (upd F1 dd (exd dd [(f, V.int i)])) _ _ _ (eH ▸ S3) (e1.trans (same_upd hF)) (.obj a0) (h Cc a0 dd hm)
end
end Dl
set_option Elab.async false
set_option linter.all false
set_option maxRecDepth 100000
set_option maxHeartbeats 2000000
namespace Dl
open PySem PySem.Spec PyProof.Rows L2
section
variable {X : Cx} {CX : CXT} {k : Nat} {f C : Addr} {fd : FuncData} {ps : List Str} {sp : Sp} {E : L2.St → XK} {x m : Str} {p pos apos : Pos} {e o : Expr} {es : List Expr} {ta : TE} {t : TA}
def tMethX (C : Addr) (m : Str) (sp : Sp) (E : L2.St → XK) (ta : TE) (t : TA) : TE := fun σ H Q => ta σ H fun x H1 => ∃ a dx fs, x = .ref a ∧ H1 a = some (.ins C dx fs) ∧ fs.lookup m = none ∧ t σ H1 fun vs H2 => sp (x :: vs) H2 Q (E σ)
theorem pe_methX {pl : Sem Bool} (he : PE X o ta) (c : Cls X.K C) (hm : Meth X.K C m f) (F : FnOk X.prog X.w X.K X.mg X.base CX k f fd ps sp) (hr : Room k X.A) (hb : Binds X.K fd ps []) (hx : ∀ σ, PassesAt CX X σ (E σ)) (ha : PA X (e :: es) t)
    (hst : starEach (e :: es) X.env = (false, eval e X.env) :: starEach es X.env) (hpl : (backTo pos (starEach es X.env)).any (·.1) = false)
    (ht : eval (.Call (.Attribute o m apos) (e :: es) [] pos) X.env = (do
      let ov ← eval o X.env
      standAt apos.atName
      let (f, first) ← holding [ov] (getMethod ov m pl)
      callWith pos f first (backTo pos (starEach (e :: es) X.env)) (backToKw pos (keywordEach [] X.env)))) :
    PE X (.Call (.Attribute o m apos) (e :: es) [] pos) (tMethX C m sp E ta t) := by
  refine ⟨fun pins s σ H Q I h => ?_⟩
  refine PySem.W.methodCall_KW (pl := pl) (thn (he.run pins s σ H _ I h) fun u s1 ⟨x, H1, I1, rx, a, dx, fs, ex, ea, l, q⟩ => ?_) ht
  subst ex
  obtain rfl : u = Value.ref a := rx
  refine getmeth_ok I1 ea c hm l ?_
  refine PySem.W.callWith_K (first := [.ref a]) (h₀ := X.base) I.ok.mod.kin hm.kp (thn (ha.run pos pins s1 σ H1 _ I1 q) fun us s2 ⟨vs, H2, I2, r, q2⟩ => ⟨I2.kIn, ?_⟩) hst hpl
  exact run_fnS (us := .ref a :: us) (vs := .ref a :: vs) F hr hb (hx σ) I2 (.cons rfl r) q2
/-- .. of a def with *args -/
def tMethSt (K : PySem.W.Frag) (C : Addr) (m : Str) (sp : DSp) (n : Nat) (E : L2.St → XK) (ta : TE) (t : TA) : TE := fun σ H Q => ta σ H fun x H1 => ∃ a dx fs, x = .ref a ∧ H1 a = some (.ins C dx fs) ∧ fs.lookup m = none ∧ t σ H1 fun vs H2 => n ≤ vs.length + 1 ∧ vs.length + 1 ≤ sizeLine ∧ liftSt K sp n (x :: vs) [] H2 Q (E σ)
theorem pe_methSt {pl : Sem Bool} {n : Nat} {sp : DSp} (he : PE X o ta) (c : Cls X.K C) (hm : Meth X.K C m f) (F : StOk ⟨X.prog, X.w, X.K, X.mg, X.base⟩ k f n [] sp) (hr : Room k X.A) (hx : ∀ σ, PassesAt (L2N.CX X.prog X.w) X σ (E σ)) (ha : PA X (e :: es) t)
    (hst : starEach (e :: es) X.env = (false, eval e X.env) :: starEach es X.env) (hpl : (backTo pos (starEach es X.env)).any (·.1) = false)
    (ht : eval (.Call (.Attribute o m apos) (e :: es) [] pos) X.env = (do
      let ov ← eval o X.env
      standAt apos.atName
      let (f, first) ← holding [ov] (getMethod ov m pl)
      callWith pos f first (backTo pos (starEach (e :: es) X.env)) (backToKw pos (keywordEach [] X.env)))) :
    PE X (.Call (.Attribute o m apos) (e :: es) [] pos) (tMethSt X.K C m sp n E ta t) := by
  refine ⟨fun pins s σ H Q I h => ?_⟩
  refine PySem.W.methodCall_KW (pl := pl) (thn (he.run pins s σ H _ I h) fun u s1 ⟨x, H1, I1, rx, a, dx, fs, ex, ea, l, q⟩ => ?_) ht
  subst ex
  obtain rfl : u = Value.ref a := rx
  refine getmeth_ok I1 ea c hm l ?_
  refine PySem.W.callWith_K (first := [.ref a]) (h₀ := X.base) I.ok.mod.kin hm.kp (thn (ha.run pos pins s1 σ H1 _ I1 q) fun us s2 ⟨vs, H2, I2, r, q1, q2, q3⟩ => ⟨I2.kIn, ?_⟩) hst hpl
  exact run_st (us := .ref a :: us) (vs := .ref a :: vs) (ws := []) (zs := []) F hr (hx σ) I2 (.cons rfl r) .nil q1 rfl q2 q3
theorem run_makeX {pins : List (Addr × Obj)} {σ : L2.St} {H : Hp} {s : Shared} {Q : VK} {us : List Value} {vs : List V} (M : Mk X.K C f) (F : FnOk X.prog X.w X.K X.mg X.base CX k f fd ps sp) (hr : Room (k + 1) X.A) (hb : Binds X.K fd ps []) (hx : PassesAt CX X σ (E σ)) (I : Inv X pins σ H s) (r : Vals vs us)
    (h : ∀ x dx, H x = none → H dx = none → dx ≠ x → sp (.ref x :: vs) (upd (upd H dx (.own x)) x (.ins C dx [])) (fun v H2 => v = .non ∧ Q (.ref x) H2) (E σ)) :
    wpAny (model X.prog X.w) X.A (call (.ref C) us) (EP X pins σ Q) X.xe s := by
  have hq := h (s.heap.objs.size + 1) s.heap.objs.size (I.hok.fresh (Nat.le_succ _)) (I.hok.fresh (Nat.le_refl _)) (Nat.ne_of_lt (Nat.lt_succ_self _))
  have I2 := Inv.made (C := C) I
  have r2 : Vals (V.ref (s.heap.objs.size + 1) :: vs) (Value.ref (s.heap.objs.size + 1) :: us) := .cons rfl r
  have hl : (Value.ref (s.heap.objs.size + 1) :: us).length = ps.length := by
    have e := r2.length
    rw [F.len _ _ _ _ hq] at e
    exact e.symm
  have hbb := hb _ (Value.ref (s.heap.objs.size + 1) :: us) I2.kIn (by rw [List.append_nil]; exact hl)
  rw [List.append_nil] at hbb
  refine wpAny_call (make_map (f := f) I.kIn M.makes M.init (beq_iff_eq.mp M.fn) (codeAny_mono (F.run _ X.stack _ _ ⟨Value.ref (s.heap.objs.size + 1) :: us, []⟩ (Value.ref (s.heap.objs.size + 1) :: us) _ _ (E σ) (hr.make C us [])
    (I2.env0.make C us []) hbb r2 hq) fun r s' hq' => ?_))
  cases r with
  | error e => exact hx pins _ _ e s' I2 hq'
  | ok fl =>
    cases fl with
    | ret u =>
      obtain ⟨v, H', I3, rv, ev, q3⟩ := I2.after hq'
      subst ev
      exact ⟨rv, ⟨V.ref (s.heap.objs.size + 1), H', I3, rfl, q3⟩⟩
    | next => exact False.elim hq'
    | brk => exact False.elim hq'
    | cont => exact False.elim hq'
end
def GMt (M : Mach) (C : Addr) (m : Str) (k : Nat) (sp : DSp) : Prop := ∃ (f : Addr) (fd : FuncData) (ps : List Str), Meth M.K C m f ∧ Binds M.K fd ps [] ∧ FnOk M.P M.w M.K M.mg M.base (L2N.CX M.P M.w) k f fd ps (liftSp M.K sp)
def GMtSt (M : Mach) (C : Addr) (m : Str) (n k : Nat) (sp : DSp) : Prop := ∃ f : Addr, Meth M.K C m f ∧ StOk M k f n [] sp
def GMk (M : Mach) (C : Addr) (k : Nat) (sp : DSp) : Prop := ∃ (f : Addr) (fd : FuncData) (ps : List Str), Mk M.K C f ∧ Binds M.K fd ps [] ∧ FnOk M.P M.w M.K M.mg M.base (L2N.CX M.P M.w) k f fd ps (liftSp M.K sp)
theorem GMt.mono {M : Mach} {C : Addr} {m : Str} {j k : Nat} {sp : DSp} (h : GMt M C m j sp) (l : j ≤ k) : GMt M C m k sp := by
  obtain ⟨f, fd, ps, h1, h2, h3⟩ := h
  exact ⟨f, fd, ps, h1, h2, h3.mono l⟩
theorem GMtSt.mono {M : Mach} {C : Addr} {m : Str} {n j k : Nat} {sp : DSp} (h : GMtSt M C m n j sp) (l : j ≤ k) : GMtSt M C m n k sp := by
  obtain ⟨f, h1, h2⟩ := h
  exact ⟨f, h1, h2.mono l⟩
theorem GMk.mono {M : Mach} {C : Addr} {j k : Nat} {sp : DSp} (h : GMk M C j sp) (l : j ≤ k) : GMk M C k sp := by
  obtain ⟨f, fd, ps, h1, h2, h3⟩ := h
  exact ⟨f, fd, ps, h1, h2, h3.mono l⟩
def putD (f : Str) (d : D) : List (Str × D) → List (Str × D)
  | [] => [(f, d)]
  | (g, x) :: r => if g = f then (g, d) :: r else (g, x) :: putD f d r
theorem preps_put {K : PySem.W.Frag} {F : Hp} {f : Str} {v : V} {d : D} (r : Rep K F v d) : ∀ {gs : List (Str × V)} {fs : List (Str × D)}, PReps K F gs fs → PReps K F (putF f v gs) (putD f d fs)
  | _, _, .nil => .cons ⟨rfl, r⟩ .nil
  | (g1, v1) :: gs, (f1, d1) :: fs, .cons h t => by
    obtain ⟨e, rv⟩ := h
    dsimp only at e rv
    subst e
    rw [putF, putD]
    by_cases c : g1 = f
    · rw [if_pos c, if_pos c]
      exact .cons ⟨rfl, r⟩ t
    · rw [if_neg c, if_neg c]
      exact .cons ⟨rfl, rv⟩ (preps_put r t)
theorem preps_none {K : PySem.W.Frag} {F : Hp} {y : Str} : ∀ {gs : List (Str × V)} {fs : List (Str × D)}, PReps K F gs fs → fs.lookup y = none → gs.lookup y = none
  | _, _, .nil, h => rfl
  | (g1, v1) :: gs, (f1, d1) :: fs, .cons h r, hl => by
    obtain ⟨e, rv⟩ := h
    dsimp only at e rv
    subst e
    rw [List.lookup_cons] at hl ⊢
    cases hb : y == g1 with
    | true => rw [hb] at hl; cases hl
    | false => rw [hb] at hl; exact preps_none r hl
theorem preps_len {K : PySem.W.Frag} {F : Hp} : ∀ {gs : List (Str × V)} {fs : List (Str × D)}, PReps K F gs fs → gs.length = fs.length
  | _, _, .nil => rfl
  | _, _, .cons _ r => by rw [List.length_cons, List.length_cons, preps_len r]
section
variable {M : Mach} {X : Cx} {N : List Str} {sc : Scope} {vb lb gb : Str → Bool} {B : Bs} {G : Sl} {O : Own} {E : EndsD} {e a o value : Expr} {es : List Expr} {pos pos' apos p : Pos} {x f m : Str} {k n : Nat} {i : Int} {q Cc dx : Addr} {d : D} {fs : List (Str × D)} {sp : DSp} {Ψ : Xk}
/-- e.f, a field -/
theorem pv_fld (C : Cxt M X N sc vb lb gb) (ha : PEv X B G O a (.obj q)) (hm : (q, OV.ins Cc dx fs) ∈ O) (c : Cls M.K Cc) (na : NoAttr M.K Cc f) (hl : fs.lookup f = some d) (hb : attributeBase a f X.env (eval a X.env) = eval a X.env := by rfl) : PEv X B G O (.Attribute a f pos) d := fun F σ H S Q kk => by
  have hM := C.hM
  subst hM
  refine sem (pe_fld pe_sem hb) ?_
  refine ha F σ H S _ fun v F1 H1 d1 O1 S1 e1 r1 p1 => ?_
  obtain ⟨rfl, rfl⟩ := p1
  cases r1
  obtain ⟨_, gs, h1, h2⟩ := S1.own _ hm
  obtain ⟨v, hv, rv⟩ := preps_lookup h2 hl
  exact ⟨q, Cc, dx, gs, v, rfl, h1, c, na, hv, kk _ F1 _ _ _ S1 e1 rv ⟨rfl, rfl⟩⟩
/-- e.f, a constant int of the class -/
theorem pv_con {u : Value} (C : Cxt M X N sc vb lb gb) (ha : PEv X B G O a (.obj q)) (hm : (q, OV.ins Cc dx fs) ∈ O) (c : Cls M.K Cc) (cn : Con M.K Cc f (.int i) u) (hl : fs.lookup f = none) (hb : attributeBase a f X.env (eval a X.env) = eval a X.env := by rfl) : PEv X B G O (.Attribute a f pos) (.int i) := fun F σ H S Q kk => by
  have hM := C.hM
  subst hM
  refine sem (pe_con pe_sem hb) ?_
  refine ha F σ H S _ fun v F1 H1 d1 O1 S1 e1 r1 p1 => ?_
  obtain ⟨rfl, rfl⟩ := p1
  cases r1
  obtain ⟨_, gs, h1, h2⟩ := S1.own _ hm
  exact ⟨q, Cc, dx, gs, .int i, u, rfl, h1, c, cn, preps_none h2 hl, kk _ F1 _ _ _ S1 e1 (.int i) ⟨rfl, rfl⟩⟩
/-- e.f = value -/
theorem ws_fld (C : Cxt M X N sc vb lb gb) (c : Cls M.K Cc) (na : NoAttr M.K Cc f) (h : WE X B G O value fun d O1 => ∃ q dx fs O2, PEv X B G O1 o (.obj q) ∧ (q, OV.ins Cc dx fs) ∈ O1 ∧ fs.length < 1000 ∧ OSet O1 q (.ins Cc dx (putD f d fs)) O2 ∧ E.nx G O2)
    (hs : swapsWith value (some (.Attribute o f pos')) pos.line X.env = pure false := by rfl) : WS X B G O (.Assign [.Attribute o f pos'] value pos) E := fun F σ H S D' kk => by
  have hM := C.hM
  subst hM
  refine semS (ps_fld pe_sem pe_sem hs) ?_
  refine h F σ H S _ fun y F1 H1 d O1 S1 e1 ry p1 => ?_
  obtain ⟨q, dx, fs, O2, ho, hm, hl, hset, z⟩ := p1
  refine ho F1 σ H1 S1 _ fun v F2 H2 d2 O3 S2 e2 r2 p2 => ?_
  obtain ⟨rfl, rfl⟩ := p2
  cases r2
  obtain ⟨_, gs, h1, h2⟩ := S2.own _ hm
  refine ⟨q, Cc, dx, gs, rfl, h1, c, na, by rw [preps_len h2]; exact hl, ?_⟩
  exact kk.nx G O2 F2 σ _ (S2.mut hset ⟨_, upd_same, preps_put (ry.mono e2) h2⟩) (e1.trans e2) z
/-- o.m(e, ..) -/
theorem we_meth {Φ : D → Own → Prop} {pl : Sem Bool} (C : Cxt M X N sc vb lb gb) (c : Cls M.K Cc) (f : GMt M Cc m k sp) (hr : Room k X.A) (tk : L2N.Takes X (wD X.K B Ψ)) (h : WE X B G O o fun d O1 => ∃ q dx fs, d = .obj q ∧ (q, OV.ins Cc dx fs) ∈ O1 ∧ fs.lookup m = none ∧ WA X B G O1 (e :: es) fun ds O2 => DPost sp G Φ Ψ (.obj q :: ds) O2)
    (he : starEach (e :: es) X.env = (false, eval e X.env) :: starEach es X.env := by exact star_cons rfl) (hpl : (backTo pos (starEach es X.env)).any (·.1) = false := by rfl)
    (ht : eval (.Call (.Attribute o m apos) (e :: es) [] pos) X.env = (do
      let ov ← eval o X.env
      standAt apos.atName
      let (f, first) ← holding [ov] (getMethod ov m pl)
      callWith pos f first (backTo pos (starEach (e :: es) X.env)) (backToKw pos (keywordEach [] X.env))) := by rfl) : WE X B G O (.Call (.Attribute o m apos) (e :: es) [] pos) Φ := fun F σ H S Q kk => by
  obtain rfl := C.hM
  obtain ⟨f, fd, ps, h1, h3, h4⟩ := f
  refine sem (pe_methX (pl := pl) (E := fun σ cls dd H => wD X.K B Ψ cls dd σ H) pe_sem c h1 h4 hr h3 (fun σ => L2N.passAt tk σ) pa_sem he hpl ht) ?_
  refine h F σ H S _ fun v F1 H1 d O1 S1 e1 r1 p1 => ?_
  obtain ⟨q, dx, fs, rfl, hm, hl, p1⟩ := p1
  cases r1
  obtain ⟨_, gs, g1, g2⟩ := S1.own _ hm
  refine ⟨q, dx, gs, rfl, g1, preps_none g2 hl, ?_⟩
  refine p1 F1 σ H1 S1 _ fun vs F2 H2 ds O2 S2 e2 r2 p2 => ?_
  exact post_run S2 (.cons (.obj q) r2) p2 fun v F' H' d O' S' e' r' q' => kk v F' H' d O' S' ((e1.trans e2).trans e') r' q'
/-- o.m(e, ..), m a def with *args -/
theorem we_methSt {Φ : D → Own → Prop} {pl : Sem Bool} (C : Cxt M X N sc vb lb gb) (c : Cls M.K Cc) (f : GMtSt M Cc m n k sp) (hr : Room k X.A) (tk : L2N.Takes X (wD X.K B Ψ)) (h : WE X B G O o fun d O1 => ∃ q dx fs, d = .obj q ∧ (q, OV.ins Cc dx fs) ∈ O1 ∧ fs.lookup m = none ∧ WA X B G O1 (e :: es) fun ds O2 => n ≤ ds.length + 1 ∧ ds.length < 1000000 ∧ DPost sp G Φ Ψ ((.obj q :: ds).take n ++ [.tup ((.obj q :: ds).drop n)]) O2)
    (he : starEach (e :: es) X.env = (false, eval e X.env) :: starEach es X.env := by exact star_cons rfl) (hpl : (backTo pos (starEach es X.env)).any (·.1) = false := by rfl)
    (ht : eval (.Call (.Attribute o m apos) (e :: es) [] pos) X.env = (do
      let ov ← eval o X.env
      standAt apos.atName
      let (f, first) ← holding [ov] (getMethod ov m pl)
      callWith pos f first (backTo pos (starEach (e :: es) X.env)) (backToKw pos (keywordEach [] X.env))) := by rfl) : WE X B G O (.Call (.Attribute o m apos) (e :: es) [] pos) Φ := fun F σ H S Q kk => by
  obtain rfl := C.hM
  obtain ⟨f, h1, h4⟩ := f
  refine sem (pe_methSt (pl := pl) (E := fun σ cls dd H => wD X.K B Ψ cls dd σ H) pe_sem c h1 h4 hr (fun σ => L2N.passAt tk σ) pa_sem he hpl ht) ?_
  refine h F σ H S _ fun v F1 H1 d O1 S1 e1 r1 p1 => ?_
  obtain ⟨q, dx, fs, rfl, hm, hl, p1⟩ := p1
  cases r1
  obtain ⟨_, gs, g1, g2⟩ := S1.own _ hm
  refine ⟨q, dx, gs, rfl, g1, preps_none g2 hl, ?_⟩
  refine p1 F1 σ H1 S1 _ fun vs F2 H2 ds O2 S2 e2 r2 ⟨a1, a2, p2⟩ => ?_
  refine ⟨by rw [r2.length]; exact a1, by rw [r2.length, sizeLine_eq]; omega, ?_⟩
  exact post_st S2 (.cons (.obj q) r2) .nil (by rw [List.append_nil]; exact p2) fun v F' H' d O' S' e' r' q' => kk v F' H' d O' S' ((e1.trans e2).trans e') r' q'
theorem made_run {Φ : D → Own → Prop} {F1 H1 : Hp} {σ : L2.St} {O1 : Own} {vs : List V} {ds : List D} {Q : VK} {K : PySem.W.Frag} {x0 dx0 : Addr} (S1 : Sat K B G O1 F1 σ H1) (r1 : Reps K F1 vs ds) (n1 : H1 x0 = none) (n2 : H1 dx0 = none) (ne : dx0 ≠ x0)
    (p1 : DPost sp G (fun d O' => d = .non ∧ Φ (.obj x0) O') Ψ (.obj x0 :: ds) ((x0, .ins Cc dx0 []) :: O1)) (k : ∀ v F' H' d O', Sat K B G O' F' σ H' → Same F1 F' → Rep K F' v d → Φ d O' → Q v H') :
    liftSp K sp (.ref x0 :: vs) (upd (upd H1 dx0 (.own x0)) x0 (.ins Cc dx0 [])) (fun v H2 => v = .non ∧ Q (.ref x0) H2) (fun cls dd H => wD K B Ψ cls dd σ H) := by
  have hF : F1 dx0 = none := S1.ex.free n2
  have e2 : Same F1 (upd F1 dx0 (.own x0)) := same_upd hF
  have S2 := S1.alloc n2 (.own x0)
  have n3 : upd H1 dx0 (.own x0) x0 = none := by rw [upd_ne (fun z => ne z.symm)]; exact n1
  have S3 := S2.allocOwn n3 (o := .ins Cc dx0 []) (ov := .ins Cc dx0 []) ⟨[], upd_same, .nil⟩
  refine post_run S3 (.cons (.obj x0) (r1.mono e2)) p1 fun v F' H' d O' S' e' r' q' => ?_
  obtain ⟨rfl, q'⟩ := q'
  cases r'
  exact ⟨rfl, k _ F' H' _ O' S' (e2.trans e') (.obj x0) q'⟩
/-- C(e, ..), C an own class of the module -/
theorem we_make {Φ : D → Own → Prop} (C : Cxt M X N sc vb lb gb) (gc : M.mg x = some (.ref Cc)) (f : GMk M Cc k sp) (hr : Room (k + 1) X.A) (tk : L2N.Takes X (wD X.K B Ψ)) (hg : gb x = true) (h : WA X B G O (e :: es) fun ds O1 => ∀ q dx, DPost sp G (fun d O' => d = .non ∧ Φ (.obj q) O') Ψ (.obj q :: ds) ((q, .ins Cc dx []) :: O1))
    (he : starEach (e :: es) X.env = (false, eval e X.env) :: starEach es X.env := by exact star_cons rfl) (hpl : (backTo pos (starEach es X.env)).any (·.1) = false := by rfl) : WE X B G O (.Call (.Name x p) (e :: es) [] pos) Φ := fun F σ H S Q kk => by
  obtain rfl := C.hM
  obtain ⟨f, fd, ps, h1, h3, h4⟩ := f
  refine ⟨fun pins s I => ?_⟩
  refine wpAny_Call_Name_kw (ld_glob I (C.gl x hg).1 gc ?_ (C.gl x hg).2)
  have hA := h F σ H S (fun vs H1 => ∃ F1 ds O1, Sat X.K B G O1 F1 σ H1 ∧ Same F F1 ∧ Reps X.K F1 vs ds ∧ ∀ q dx, DPost sp G (fun d O' => d = .non ∧ Φ (.obj q) O') Ψ (.obj q :: ds) ((q, .ins Cc dx []) :: O1)) fun vs F1 H1 ds O1 S1 e1 r1 p1 => ⟨F1, ds, O1, S1, e1, r1, p1⟩
  refine PySem.W.callWith_K (h₀ := X.base) I.ok.mod.kin h1.kp (thn (pa_sem.run pos pins s σ H _ I hA) fun us s1 ⟨vs, H1, I1, r, F1, ds, O1, S1, e1, r1, p1⟩ => ⟨I1.kIn, ?_⟩) he hpl
  exact run_makeX (E := fun σ cls dd H => wD X.K B Ψ cls dd σ H) h1 h4 hr h3 (L2N.passAt tk σ) I1 r fun x0 dx0 n1 n2 ne => made_run S1 r1 n1 n2 ne (p1 x0 dx0) fun v F' H' d O' S' e' r' q' => kk v F' H' d O' S' (e1.trans e') r' q'
/-- c(e, ..), c a local name that holds the class -/
theorem we_makeV {Φ : D → Own → Prop} (C : Cxt M X N sc vb lb gb) (hx : VarAt N G x (.obj Cc)) (hv : vb x = true) (f : GMk M Cc k sp) (hr : Room (k + 1) X.A) (tk : L2N.Takes X (wD X.K B Ψ)) (h : WA X B G O (e :: es) fun ds O1 => ∀ q dx, DPost sp G (fun d O' => d = .non ∧ Φ (.obj q) O') Ψ (.obj q :: ds) ((q, .ins Cc dx []) :: O1))
    (he : starEach (e :: es) X.env = (false, eval e X.env) :: starEach es X.env := by exact star_cons rfl) (hpl : (backTo pos (starEach es X.env)).any (·.1) = false := by rfl) : WE X B G O (.Call (.Name x p) (e :: es) [] pos) Φ := fun F σ H S Q kk => by
  obtain rfl := C.hM
  obtain ⟨f, fd, ps, h1, h3, h4⟩ := f
  obtain ⟨i, g1, g2⟩ := hx.ix
  obtain ⟨w1, w2, w3⟩ := C.vis x hv
  obtain ⟨v, ev, rv⟩ := S.slot i _ g2
  cases rv
  refine ⟨fun pins s I => ?_⟩
  refine wpAny_Call_Name_kw (thn ((pe_var (pos := p) (i := i) (by rw [C.hN]; exact g1) w1 w2 w3).run pins s σ H (fun v H1 => v = .ref Cc ∧ H1 = H) I ⟨.ref Cc, ev, rfl, rfl⟩) fun u s1 ⟨v, H1, I1, r1, ev, eH⟩ => ?_)
  subst ev
  rw [eH] at I1
  obtain rfl : u = Value.ref Cc := r1
  have hA := h F σ H S (fun vs H1 => ∃ F1 ds O1, Sat X.K B G O1 F1 σ H1 ∧ Same F F1 ∧ Reps X.K F1 vs ds ∧ ∀ q dx, DPost sp G (fun d O' => d = .non ∧ Φ (.obj q) O') Ψ (.obj q :: ds) ((q, .ins Cc dx []) :: O1)) fun vs F1 H1 ds O1 S1 e1 r1 p1 => ⟨F1, ds, O1, S1, e1, r1, p1⟩
  refine PySem.W.callWith_K (h₀ := X.base) I.ok.mod.kin h1.kp (thn (pa_sem.run pos pins s1 σ H _ I1 hA) fun us s2 ⟨vs, H2, I2, r, F1, ds, O1, S1, e1, r1, p1⟩ => ⟨I2.kIn, ?_⟩) he hpl
  exact run_makeX (E := fun σ cls dd H => wD X.K B Ψ cls dd σ H) h1 h4 hr h3 (L2N.passAt tk σ) I2 r fun x0 dx0 n1 n2 ne => made_run S1 r1 n1 n2 ne (p1 x0 dx0) fun v F' H' d O' S' e' r' q' => kk v F' H' d O' S' (e1.trans e') r' q'
end
end Dl
set_option Elab.async false
set_option linter.all false
set_option maxRecDepth 100000
set_option maxHeartbeats 2000000
namespace Gz
open PySem PySem.Spec PyProof.Rows L2 GenW
theorem gok_of0 {P : Program} {w : World} {K : PySem.W.Frag} {mg : Str → Option Value} {base : Heap} {k : Nat} {f : Addr} {name qual : Str} {params : Arguments} {scope : Scope} {dV kV doc pm cdv ct oc : Value} {an od : Option Addr}
    {osl : Array (Option Value)} {N ps : List Str} {sp : SpO} {e : Expr} {x : Str} {px px2 yp yq fp : Pos}
    (lk : K.lookup f = some ⟨oc, od, .func (PySem.W.fnOf name qual params [.For (.Name x px) e [.Expr (.Yield (some (.Name x px2)) yp) yq] [] fp] scope dV kV doc pm an cdv ct), osl⟩) (hcd : PySem.W.codeIn K cdv qual = true) (S : GScope N ps scope)
    (hx : scope.names.lookup x = some .local) (hd : (x == ("__debug__" : Str)) = false) (len : ∀ vs H Q, sp vs H Q → vs.length = ps.length) (hs : ∀ env v, foldedSetIterable e env v = pure v)
    (hbody : ∀ (A : Around) (outer : List Env) (s : Shared) (H : Hp) (vs : List V) (Q1 : Addr → List V → Hp → Prop) (pn : List (Addr × Obj)), Room k (A.deeper (envOfC qual scope s.heap.objs.size f cdv)) → sp vs H Q1 →
      ∃ tE, PE (gcxOf P w K mg base N qual scope f cdv A outer s H (fun _ _ _ => False) pn) e tE ∧ tE (start N vs) H fun v H2 => ∃ T out, v = .ref T ∧ SqL K H2 T out ∧ Q1 T out H2) :
    GOk P w K mg base (k + 1) f (PySem.W.fnOf name qual params [.For (.Name x px) e [.Expr (.Yield (some (.Name x px2)) yp) yq] [] fp] scope dV kV doc pm an cdv ct) ps sp := by
  refine ⟨len, fun A outer s H args us vs Q1 hr e0 hb r hsp => ?_⟩
  have hl := len _ _ _ hsp
  have KX : K.In s.heap := e0.mod.kin.keeps fun b o e => (e0.bs b o e).1
  have lim : s.heap.NoLimit := e0.mod.nolimit.keeps fun b o e => (e0.bs b o e).1
  have hkind : ∀ y ∈ ps.zip us, scope.names.lookup y.1 = some .local ∨ (scope.names.lookup y.1 = some .cell ∧ ((cellsFrom (s.heap.objs.size + 1) scope.names []).lookup y.1).isSome = true) := fun ⟨n, v⟩ hy => by
    rcases S.par n (List.of_mem_zip hy).1 with q | q
    · exact .inl q
    · exact .inr ⟨q, PySem.W.cellsFrom_some _ _ _ (.inl q)⟩
  refine codeAny_call_generator hr.depth (KX _ _ lk) rfl S.co S.gen rfl (PySem.W.codeRec_of KX hcd) (hb _ _ _ _ ?_)
  refine wpAny_newFunctionEnv_cells S.kind hkind fun env he s1 x1 => ?_
  subst he
  have lim1 : s1.heap.NoLimit := lim.keeps x1.toInCall.keep
  refine ⟨lim1, ?_⟩
  obtain ⟨h1, tk, es1, hk1⟩ := x1.done
  have os1 : s1.os = s.os := by rw [es1]
  have gen1 : s1.gens = s.gens := by rw [es1]
  have lt1 : s.heap.objs.size < s1.heap.objs.size := x1.toInCall.ns.lt
  have kp1 : ∀ b o, s.heap.get? b = some o → s1.heap.get? b = some o := x1.toInCall.keep
  have main : ∀ (go : Obj) (nm qn : Value) (tk2 : Nat), go.cls = .type "generator" → go.data = .fields #[.int s1.gens.size 0, nm, qn] → go.slots = #[] → (∀ h : Heap, (h.push go).get? h.objs.size = some go) →
      GMk P w K (k + 1) outer H s Q1 (.ref s1.heap.objs.size) { s1 with gens := s1.gens.push (.fresh (.func [.For (.Name x px) e [.Expr (.Yield (some (.Name x px2)) yp) yq] [] fp] (envOfC qual scope s.heap.objs.size f cdv))), toks := tk2, heap := s1.heap.push go } := by
    intro go nm qn tk2 hgc hgd0 hgs hgp
    have hgen : ∀ h : Heap, h.get? s1.heap.objs.size = some go → h.IsGen s1.heap.objs.size s1.gens.size := fun h e => ⟨go, nm, qn, e, hgc, hgd0, hgs⟩
    have hpushed : (s1.heap.push go).get? s1.heap.objs.size = some go := hgp _
    have szp : (s1.heap.push go).objs.size = s1.heap.objs.size + 1 := Heap.size_push ..
    refine ⟨s1.heap.objs.size, s1.gens.size, _, s.heap.objs.size, rfl, Nat.le_of_lt lt1, ?_, Nat.le_refl _, ?_, Nat.ne_of_lt lt1, hgen _ hpushed, Array.getElem?_push_size .., os1, ?_, lim1.keeps fun b o e => Heap.get?_push_of_some _ e, fun b o e => Heap.get?_push_of_some _ (kp1 b o e), ?_⟩
    · show _ < (s1.heap.push _).objs.size
      rw [szp]; exact Nat.lt_succ_self _
    · show _ < (s1.heap.push _).objs.size
      rw [szp]; omega
    · exact AllBare.push (by rw [gen1]; exact e0.bare) rfl
    intro Aw ex s2 hrw hfr hk2 hos hba hex
    have e0w : Env0 P w K mg base Aw outer s H := ⟨hfr, e0.mod, e0.bs, e0.bsz, e0.funs, e0.frf, e0.hok, e0.bare⟩
    obtain ⟨tE, hE, hq⟩ := hbody Aw outer s H vs Q1 ((s1.heap.objs.size, go) :: ex) (hrw.deeper _) hsp
    have I1 : Inv (gcxOf P w K mg base N qual scope f cdv Aw outer s H (fun _ _ _ => False) []) [] (start N vs) H s1 := inv_startG S hrw.hd e0w hl r x1
    have kp2 : ∀ b o, s1.heap.get? b = some o → s2.heap.get? b = some o := fun b o e => hk2 b o (Heap.get?_push_of_some _ e)
    have I2 : Inv (gcxOf P w K mg base N qual scope f cdv Aw outer s H (fun _ _ _ => False) []) [] (start N vs) H s2 :=
      I1.call' (ch := []) (hos.trans os1.symm) (Un.kept kp2) (I1.hok.kept kp2) hba fun b z => by simp at z
    have hea : s2.heap.get? s1.heap.objs.size = some go := hk2 s1.heap.objs.size go hpushed
    have hgd : ∀ v, go.data ≠ .cell v := fun v q => by rw [hgd0] at q; cases q
    have I3 : Inv (gcxOf P w K mg base N qual scope f cdv Aw outer s H (fun _ _ _ => False) ((s1.heap.objs.size, go) :: ex)) [] (start N vs) H s2 := Inv.pinnedG I2 fun p hp => by
      rw [List.append_nil] at hp
      rcases List.mem_cons.mp hp with e | hp
      · rw [e]
        exact ⟨hea, I1.hok.fresh (Nat.le_refl _), Nat.ne_of_gt lt1, I1.nofs (Nat.le_refl _), hgd⟩
      · obtain ⟨z1, z2, z3⟩ := hex p hp
        have z1 : (s1.heap.push go).objs.size ≤ p.1 := z1
        rw [szp] at z1
        exact ⟨z2, I1.hok.fresh (by omega), Nat.ne_of_gt (Nat.lt_of_lt_of_le lt1 (by omega)), I1.nofs (by omega), z3⟩
    have bad : ∀ {Φ : End → Shared → Prop} {c : Code} {ev : Value} {s' : Shared}, (gcxOf P w K mg base N qual scope f cdv Aw outer s H (fun _ _ _ => False) ((s1.heap.objs.size, go) :: ex)).xe ev s' →
        SegF (model P w) Aw Φ (.func [.For (.Name x px) e [.Expr (.Yield (some (.Name x px2)) yp) yq] [] fp] (envOfC qual scope s.heap.objs.size f cdv)) ((leaving (envOfC qual scope s.heap.objs.size f cdv) ev).wrap (fun _ => .raise ev) .raise id id) [] s' := by
      intro Φ c ev s' hxe
      refine sf_wrap ?_
      rw [over_func]
      exact wpAny_mono (show wpAny (model P w) (Aw.deeper (envOfC qual scope s.heap.objs.size f cdv)) (leaving (envOfC qual scope s.heap.objs.size f cdv) ev) (fun _ s'' => CX P w outer H s (fun _ _ _ => False) ev s'' ∧ ∀ p ∈ (s1.heap.objs.size, go) :: ex, s''.heap.get? p.1 = some p.2) (fun _ _ => False) s' from hxe) (fun _ s'' q => (cx_false q.1).elim) fun _ s'' q => q.elim
    refine sf_func (sf_execs_cons (sf_For (hs _) ?_))
    rw [over_func]
    refine wpAny_mono (hE.run [] s2 _ H _ I3 hq) (fun v s4 h4 => ?_) fun ev s' hxe => bad (c := .func [] (envOfC qual scope s.heap.objs.size f cdv)) hxe
    obtain ⟨xv, H4, J4, r4, T, out, rfl, hT, q4⟩ := h4
    cases r4
    obtain ⟨its, rv, pl, _⟩ := J4.list hT
    have hq4 := J4.quiet
    obtain ⟨m4, n4, _⟩ := id J4.loc
    have hLlt := J4.lt
    have hTlt := pl.lt
    have hLT : s.heap.objs.size ≠ T := fun e => by
      obtain ⟨o, es, ep, ho, hdd, _⟩ := n4
      obtain ⟨o', n', ho', _, _, hd'⟩ := pl
      have ho2 : s4.heap.get? s.heap.objs.size = some o := ho
      rw [e, ho'] at ho2
      cases ho2
      rw [hd'] at hdd
      cases hdd
    refine wpAny_pyIter_list pl.isList fun p => ?_
    have push : ∀ b o, s4.heap.get? b = some o → (s4.heap.push { cls := .type "list_iterator", data := .fields #[.ref T, .int 0 0] }).get? b = some o := fun b o e => Heap.get?_push_of_some _ e
    have hA : (Aw.over (.forLoop (.Name x px) (.ref s4.heap.objs.size) [.Expr (.Yield (some (.Name x px2)) yp) yq] [] (envOfC qual scope s.heap.objs.size f cdv)) [.ret (fun r => (backFl (envOfC qual scope s.heap.objs.size f cdv) r).wrap (fun f' => match f' with | .next => (execs [] (envOfC qual scope s.heap.objs.size f cdv)).wrap (fun f => .pure (.done (.ret (match f with | .ret v => v | _ => .none)))) (fun e => (leaving (envOfC qual scope s.heap.objs.size f cdv) e).wrap (fun _ => .raise e) .raise id id) id id | f => .pure (.done (.ret (match f with | .ret v => v | _ => .none)))) (fun e => (leaving (envOfC qual scope s.heap.objs.size f cdv) e).wrap (fun _ => .raise e) .raise id id) id id) none false [] (.func [.For (.Name x px) e [.Expr (.Yield (some (.Name x px2)) yp) yq] [] fp] (envOfC qual scope s.heap.objs.size f cdv)) p []]).handled = none := by
      rw [over_handled, over_func]
      exact hrw.hd
    have hEnd : ∀ (Φ : End → Shared → Prop) s', Φ (.ret (.ok (.ret .none))) s' → SegF (model P w) Aw Φ (.forLoop (.Name x px) (.ref s4.heap.objs.size) [.Expr (.Yield (some (.Name x px2)) yp) yq] [] (envOfC qual scope s.heap.objs.size f cdv)) (.pure (.again (.block [] (envOfC qual scope s.heap.objs.size f cdv)))) [.ret (fun r => (backFl (envOfC qual scope s.heap.objs.size f cdv) r).wrap (fun f' => match f' with | .next => (execs [] (envOfC qual scope s.heap.objs.size f cdv)).wrap (fun f => .pure (.done (.ret (match f with | .ret v => v | _ => .none)))) (fun e => (leaving (envOfC qual scope s.heap.objs.size f cdv) e).wrap (fun _ => .raise e) .raise id id) id id | f => .pure (.done (.ret (match f with | .ret v => v | _ => .none)))) (fun e => (leaving (envOfC qual scope s.heap.objs.size f cdv) e).wrap (fun _ => .raise e) .raise id id) id id) none false [] (.func [.For (.Name x px) e [.Expr (.Yield (some (.Name x px2)) yp) yq] [] fp] (envOfC qual scope s.heap.objs.size f cdv)) p []] s' := fun Φ s' h => by
      refine sf_loopEnd ?_
      show SegF _ _ _ _ (leafOf (.ok (.ret .none))) [] s'
      exact sf_end (.ok (.ret .none)) h
    have hlen : its.length = out.length := rv.length.symm
    have ff : ∀ s', Step s.heap.objs.size s4.heap.objs.size { s4 with heap := s4.heap.push { cls := .type "list_iterator", data := .fields #[.ref T, .int 0 0] } } s' → FF P w outer H s s1.heap.objs.size s1.gens.size s.heap.objs.size ex (Q1 T out) H4 s' := fun s' hst => by
      obtain ⟨h', tk', rfl, hk⟩ := hst
      exact ff_step J4 hgen rfl rfl (fun b o hb e => hk b o hb (Nat.ne_of_lt (Heap.lt_size e)) (push b o e)) q4
    refine sf_loopTurn (env := envOfC qual scope s.heap.objs.size f cdv) (T := T) (items := its.toArray) (i := 0) hA S.kind hx hd S.co hq4 (Nat.ne_of_lt hTlt) (Nat.ne_of_lt hLlt) hLT (by rfl) (by rfl) ⟨⟨_, Heap.get?_push_size _ rfl, rfl, rfl⟩, pl.isList.at fun o e => push T o e, ⟨m4, n4.at' fun o e => push _ o e⟩⟩ (Nat.zero_le _) (fun s' e0 hst => hEnd _ s' (.inl ⟨rfl, T, H4, ?_⟩)) fun v s' l kk p2 hv hst pr2 hkap => .inr ?_
    · rw [List.size_toArray] at e0
      have eo : out = [] := List.length_eq_zero_iff.mp (by omega)
      rw [← eo]
      exact ff s' hst
    · have hv2 : its[0]? = some v := by simpa using hv
      have h0 := (List.getElem?_eq_some_iff.mp hv2).1
      refine ⟨v, false, l, kk, _, p2, _, T, s4.heap.objs.size, H4, out, its, rfl, quiet_of (by rfl), ff s' hst, hT, J4.hok.fresh (Nat.le_refl _), rv, hv2, Nat.ne_of_lt hTlt, Nat.ne_of_lt hLlt, hLT, ?_, J4.sz, fun p hp => ⟨Nat.ne_of_lt (Heap.lt_size (J4.pin p (List.mem_append_left _ (List.mem_cons_of_mem _ hp))).1), fun e => ?_⟩, pr2, ?_⟩
      · exact Nat.ne_of_lt (Heap.lt_size (J4.pin (s1.heap.objs.size, go) (List.mem_append_left _ List.mem_cons_self)).1)
      · have pn := (J4.pin p (List.mem_append_left _ (List.mem_cons_of_mem _ hp))).2.1
        rcases hT with h | ⟨o, _, _, hk, _⟩
        · rw [e] at pn
          rcases h with h | ⟨_, h⟩ <;> rw [pn] at h <;> cases h
        · have h2 := Heap.lt_size (J4.ok.mod.kin T o hk)
          have h3 : base.objs.size ≤ s.heap.objs.size := J4.ok.bsz
          have h4 : T < base.objs.size := h2
          have z1 : (s1.heap.push go).objs.size ≤ p.1 := (hex p hp).1
          rw [szp, e] at z1
          exact absurd (Nat.lt_of_lt_of_le h4 (Nat.le_trans h3 (Nat.le_trans (Nat.le_of_lt lt1) (Nat.le_trans (Nat.le_succ _) z1)))) (Nat.lt_irrefl _)
      · exact sleeps_loop hA S.kind hx hd S.co hq4 (Nat.ne_of_lt hTlt) (Nat.ne_of_lt hLlt) hLT (by rfl) (by rfl) hEnd _ _ _ (by rw [List.size_toArray]; omega) ⟨kk, l, p2, _, rfl, hkap⟩
  exact main _ _ _ _ rfl rfl rfl fun h => Heap.get?_push_size _ rfl
end Gz
namespace Dl
open PySem PySem.Spec PyProof.Rows L2 Gz
/-- from the arguments and what is owned to all that it hands out -/
abbrev GSpO := List D → Own → List D → Prop
def liftGO (K : PySem.W.Frag) (sp : GSpO) : SpO := fun vs H Q1 => ∃ F O ds od, Sat K ⟨F, H, keys O⟩ [] O F [] H ∧ Reps K F vs ds ∧ sp ds O od ∧ ∀ T out F' H' G σ, Sat K ⟨F, H, keys O⟩ G O F' σ H' → Reps K F' out od → SqL K F' T out → Q1 T out H'
def GGenM (M : Mach) (C : Addr) (m : Str) (k : Nat) (sp : GSpO) : Prop := ∃ (f : Addr) (fd : FuncData) (ps : List Str), Meth M.K C m f ∧ Binds M.K fd ps [] ∧ GOk M.P M.w M.K M.mg M.base k f fd ps (liftGO M.K sp)
theorem GGenM.mono {M : Mach} {C : Addr} {m : Str} {j k : Nat} {sp : GSpO} (h : GGenM M C m j sp) (l : j ≤ k) : GGenM M C m k sp := by
  obtain ⟨f, fd, ps, h1, h2, h3⟩ := h
  exact ⟨f, fd, ps, h1, h2, h3.mono l⟩
theorem gen_body0 {M : Mach} {x qual : Str} {st : Stmt} {e : Expr} {y : Str} {px px2 yp yq fp : Pos} {f : Addr} {fd : FuncData} {N vn ps gl : List Str} {k : Nat} {sp : GSpO} (F : Fun M.K x qual st f fd) (S : GScope N ps (defScope st)) (hst : defBody st = [.For (.Name y px) e [.Expr (.Yield (some (.Name y px2)) yp) yq] [] fp])
    (hy : (defScope st).names.lookup y = some .local) (hd : (y == ("__debug__" : Str)) = false) (hs : ∀ env v, foldedSetIterable e env v = pure v) (hb : defB (defScope st) vn gl = true) (len : ∀ ds O od, sp ds O od → ds.length = ps.length)
    (body : ∀ (X : Cx) (B : Bs) (ds od : List D) (O : Own), Cxt M X N (defScope st) (fun x => vn.contains x) (fun x => vn.contains x) (fun x => gl.contains x) → Room k X.A → sp ds O od → PEv X B (startD N ds) O e (.lst od)) :
    GOk M.P M.w M.K M.mg M.base (k + 1) f fd ps (liftGO M.K sp) := by
  unfold defB at hb
  rw [Bool.and_eq_true, List.all_eq_true, List.all_eq_true] at hb
  obtain ⟨hb1, hb2⟩ := hb
  obtain ⟨oc, od, kV, doc, pm, an, cdv, ct, osl, rfl, lk, hcd⟩ := F.ex
  rw [hst] at lk ⊢
  refine gok_of0 lk hcd S hy hd (fun vs H Q h => ?_) hs fun A outer s H vs Q1 pn hr h => ?_
  · obtain ⟨F0, O, ds, od, _, r, h, _⟩ := h
    rw [r.length]
    exact len _ _ _ h
  · obtain ⟨F0, O, ds, od, S0, rs, hsp, q1⟩ := h
    have hlen : vs.length = ds.length := rs.length
    have C : Cxt M (gcxOf M.P M.w M.K M.mg M.base N qual (defScope st) f cdv A outer s H (fun _ _ _ => False) pn) N (defScope st) (fun x => vn.contains x) (fun x => vn.contains x) (fun x => gl.contains x) := by
      refine ⟨rfl, rfl, rfl, S.kind, S.nd, rfl, owns_gcx, hr.units, fun y hy => ?_, fun y hy => ?_, fun y hy => ?_⟩
      · have z := hb1 y (contains_mem hy)
        rw [Bool.and_eq_true] at z
        exact vis_of z.1
      · have z := hb1 y (contains_mem hy)
        rw [Bool.and_eq_true] at z
        exact ⟨loc_of z.2, .inl rfl⟩
      · exact gl_of (hb2 y (contains_mem hy))
    have b2 := body _ ⟨F0, H, keys O⟩ ds od O C hr hsp
    refine ⟨_, pe_sem, ?_⟩
    have S1 : Sat M.K ⟨F0, H, keys O⟩ (startD N ds) O F0 (L2.start N vs) H := by
      refine ⟨?_, fun i d e => ?_, S0.ex, S0.nd, S0.own, S0.bF, S0.bH⟩
      · unfold L2.start startD
        rw [List.length_append, List.length_append, List.length_map, List.length_map, List.length_replicate, List.length_replicate, hlen]
      · unfold startD at e
        unfold L2.start
        by_cases hi : i < ds.length
        · rw [List.getElem?_append_left (by rw [List.length_map]; exact hi), List.getElem?_map] at e
          cases e2 : ds[i]? with
          | none => rw [e2] at e; cases e
          | some d' =>
            rw [e2] at e
            cases e
            obtain ⟨v, h1, h2⟩ := rs.get e2
            refine ⟨v, ?_, h2⟩
            rw [List.getElem?_append_left (by rw [List.length_map, hlen]; exact hi), List.getElem?_map, h1] <;> rfl
        · rw [List.getElem?_append_right (by rw [List.length_map]; omega), List.getElem?_replicate] at e
          split at e <;> cases e
    refine b2 F0 (L2.start N vs) H S1 _ fun v F2 H2 d O2 S2 e2 r2 p2 => ?_
    obtain ⟨rfl, rfl⟩ := p2
    cases r2 with
    | lst hq rs2 => exact ⟨_, _, rfl, S2.ex.seq hq, q1 _ _ F2 H2 _ _ S2 rs2 hq⟩
section
variable {X : Cx} {k : Nat} {f C : Addr} {fd : FuncData} {ps : List Str} {sp : SpO} {o : Expr} {m : Str} {apos pos : Pos} {ta : TE}
def tGenM (C : Addr) (m : Str) (sp : SpO) (ta : TE) : L2.St → Hp → (Addr → List V → Hp → Prop) → Prop := fun σ H cont => ta σ H fun x H1 => ∃ a dx fs, x = .ref a ∧ H1 a = some (.ins C dx fs) ∧ fs.lookup m = none ∧ sp [x] H1 cont
theorem pgk_meth {pl : Sem Bool} (he : PE X o ta) (c : Cls X.K C) (hm : Meth X.K C m f) (F : GOk X.prog X.w X.K X.mg X.base k f fd ps sp) (hr : Room k X.A) (hb : Binds X.K fd ps [])
    (ht : eval (.Call (.Attribute o m apos) [] [] pos) X.env = (do
      let ov ← eval o X.env
      standAt apos.atName
      let (f, first) ← holding [ov] (getMethod ov m pl)
      callWith pos f first (backTo pos (starEach [] X.env)) (backToKw pos (keywordEach [] X.env)))) : PGk X k (.Call (.Attribute o m apos) [] [] pos) (tGenM C m sp ta) := by
  refine ⟨fun pins s σ H cont I h => ?_⟩
  refine PySem.W.methodCall_KW (pl := pl) (thn (he.run pins s σ H _ I h) fun u s1 ⟨x, H1, I1, rx, a, dx, fs, ex, ea, l, q⟩ => ?_) ht
  subst ex
  obtain rfl : u = Value.ref a := rx
  refine getmeth_ok I1 ea c hm l ?_
  refine PySem.W.callWith_K0 (first := [.ref a]) I1.kIn hm.kp ?_
  have r2 : Vals [V.ref a] [Value.ref a] := .cons rfl .nil
  have hl : [Value.ref a].length = ps.length := by rw [← r2.length]; exact F.len _ _ _ q
  have hbb := hb s1 [.ref a] I1.kIn (by rw [List.append_nil]; exact hl)
  rw [List.append_nil] at hbb
  refine wpAny_call (codeAny_mono (F.run X.A X.stack s1 H1 ⟨[.ref a], []⟩ [.ref a] [.ref a] cont hr I1.env0 hbb r2 q) fun r s' hq => ?_)
  cases r with
  | error e => exact False.elim hq
  | ok fl =>
    cases fl with
    | ret u => exact ⟨H1, s1, I1, hq⟩
    | next => exact False.elim hq
    | brk => exact False.elim hq
    | cont => exact False.elim hq
end
section
variable {M : Mach} {X : Cx} {N : List Str} {sc : Scope} {vb lb gb : Str → Bool} {B : Bs} {G : Sl} {O : Own} {o : Expr} {apos pos p pos2 p2 : Pos} {x m : Str} {k : Nat} {q Cc : Addr} {sp : GSpO}
/-- list(o.m()) of a generator method -/
theorem wn_listGenM {pl : Sem Bool} {Φ : List D → Own → Prop} (C : Cxt M X N sc vb lb gb) (c : Cls M.K Cc) (f : GGenM M Cc m k sp) (hr : Room (k + 3) X.A) (hm : M.mg "list" = none) (hl : gb "list" = true)
    (h : WE X B G O o fun d O1 => ∃ q dx fs Oa Ob od, d = .obj q ∧ (q, OV.ins Cc dx fs) ∈ O1 ∧ fs.lookup m = none ∧ O1.Perm (Oa ++ Ob) ∧ sp [.obj q] Oa od ∧ od.length ≤ 1000000 ∧ Φ od (Oa ++ Ob))
    (ht : eval (.Call (.Attribute o m apos) [] [] pos) X.env = (do
      let ov ← eval o X.env
      standAt apos.atName
      let (f, first) ← holding [ov] (getMethod ov m pl)
      callWith pos f first (backTo pos (starEach [] X.env)) (backToKw pos (keywordEach [] X.env))) := by rfl) : WN X B G O (.Call (.Name "list" p2) [.Call (.Attribute o m apos) [] [] pos] [] pos2) Φ := fun F σ H S Q kk => by
  obtain rfl := C.hM
  obtain ⟨f, fd, ps, h1, h3, h4⟩ := f
  have hk : Room k X.A := hr.mono (Nat.le_add_right k 3)
  refine sem (pe_listG (pgk_meth (pl := pl) pe_sem c h1 h4 hk h3 ht).pgen (fun _ _ _ _ _ _ _ c => (cx_false c).elim) (fun _ _ _ z => z.elim) hr (C.gl _ hl).1 hm rfl (by decide) (C.gl _ hl).2 (star_cons rfl)) ?_
  refine h F σ H S _ fun v F1 H1 d O1 S1 e1 r1 p1 => ?_
  obtain ⟨q, dx, fs, Oa, Ob, od, rfl, hmem, hlk, hp, hsp, hod, z⟩ := p1
  cases r1
  obtain ⟨_, gs, g1, g2⟩ := S1.own _ hmem
  have S2 := S1.perm hp
  refine ⟨q, dx, gs, rfl, g1, preps_none g2 hlk, ?_⟩
  refine ⟨F1, Oa, [.obj q], od, S2.part (Gs := []) (τ := []) rfl (fun i d e => by simp at e), .cons (.obj q) .nil, hsp, fun T out F' H' G' σ' S' r' hT => ⟨?_, fun p' hp' => ?_⟩⟩
  · rw [r'.length]
    exact Nat.le_trans hod (by decide)
  · exact kk p' od F' _ _ ((S2.frame S').allocOwn hp' (ov := .lst od) ⟨out, upd_same, r'⟩) (e1.trans S'.bF) z
end
end Dl
set_option Elab.async false
set_option linter.all false
set_option maxRecDepth 100000
set_option maxHeartbeats 2000000
namespace Dl
open PySem PySem.Spec PyProof.Rows L2
theorem csp_own {M : Model} {s : Shared} {A : Around} {E : Value → Shared → Prop} {self : Value} {name : PySem.Str} {g : Addr} {args : List Value} {Q : Option Value → Shared → Prop} (sp : PySem.W.Looks M s.heap (specialOf self name) (some (.ref g))) (hb : PySem.W.Looks M s.heap (bindSpecial (.ref g) self) (.ref g, [self]))
    (hc : wpAny M A (call (.ref g) (self :: args)) (fun v => Q (some v)) E s) : wpAny M A (callSpecial? self name args) Q E s := by
  simp only [callSpecial?]
  refine wpAny_bind (sp.here ?_)
  exact wpAny_holding (wpAny_bind (hb.here (wpAny_bind (wpAny_mono hc (fun v s' h' => wpAny_pure h') fun _ _ h' => h'))))
/-- what a class must have for len(o) -/
structure LenC (K : PySem.W.Frag) (C g : Addr) : Prop where
  at_ : PySem.W.findIn K (.ref C) "__len__" = some (some (.ref g))
  ty : PySem.W.typeIn K (.ref g) = some (.type "function")
section
variable {X : Cx} {CX : CXT} {k : Nat} {f C : Addr} {fd : FuncData} {ps : List Str} {sp : Sp} {E : L2.St → XK} {p pos : Pos} {o : Expr} {ta : TE}
def tLenO (C : Addr) (sp : Sp) (E : L2.St → XK) (ta : TE) : TE := fun σ H Q => ta σ H fun x H1 => ∃ a dx fs, x = .ref a ∧ H1 a = some (.ins C dx fs) ∧ sp [x] H1 (fun v H2 => ∃ n : Nat, v = .int n ∧ n < 1000000 ∧ Q (.int n) H2) (E σ)
theorem pe_lenO (he : PE X o ta) (c : LenC X.K C f) (F : FnOk X.prog X.w X.K X.mg X.base CX k f fd ps sp) (hr : Room (k + 1) X.A) (hb : Binds X.K fd ps []) (hx : ∀ σ, PassesAt CX X σ (E σ)) (hg : Gl X "len") (hm : X.mg "len" = none)
    (hst : starEach [o] X.env = (false, eval o X.env) :: starEach [] X.env) : PE X (.Call (.Name "len" p) [o] [] pos) (tLenO C sp E ta) := by
  refine ⟨fun pins s σ H Q I h => ?_⟩
  refine wpAny_Call_Name_kw (ld_blt I hg hm PyProof.Rows.Boot.«len» ?_ (by decide) (by decide))
  refine PyProof.Rows.callWith_builtin1 ?_ hst rfl
  rw [hst]
  show wpAny _ _ (spliced ((false, eval o X.env) :: backTo pos (starEach [] X.env))) _ _ s
  refine Calls.spliced_cons (thn (he.run pins s σ H _ I h) fun u s1 ⟨x, H1, I1, rx, a, dx, fs, ex, ea, q⟩ => ?_)
  subst ex
  obtain rfl : u = Value.ref a := rx
  refine Calls.spliced_nil ?_
  obtain ⟨mA, O, rr, _, _, _⟩ := ins_get I1.hok ea
  obtain ⟨od, J, hl⟩ := O.look
  have sp1 : PySem.W.Looks (model X.prog X.w) s1.heap (specialOf (.ref a) "__len__") (some (.ref f)) := J.type.andThen (PySem.W.looks_findIn I1.kIn c.at_)
  have hl1 : [Value.ref a].length = ps.length := by
    have e := F.len _ _ _ _ q
    exact e
  have hbb := hb s1 [.ref a] I1.kIn (by rw [List.append_nil]; exact hl1)
  rw [List.append_nil] at hbb
  have key : wpAny (model X.prog X.w) X.A.in1 (call (.ref f) [.ref a]) (EP X pins σ fun v H2 => ∃ n : Nat, v = .int n ∧ n < 1000000 ∧ Q (.int n) H2) X.xe s1 := by
    refine wpAny_call (codeAny_mono (F.run X.A.in1 X.stack s1 H1 ⟨[.ref a], []⟩ [.ref a] [.ref a] _ (E σ) hr.in1 I1.env0.in1 hbb (.cons rfl .nil) q) fun r s' hq => ?_)
    cases r with
    | error e => exact hx σ pins H1 s1 e s' I1 hq
    | ok fl =>
      cases fl with
      | ret u => exact I1.after hq
      | next => exact False.elim hq
      | brk => exact False.elim hq
      | cont => exact False.elim hq
  refine Calls.call_function_entry kind_len plain_len entry_len (args_len1 _) ?_
  unfold Builtin.«len»
  refine wpAny_bind (m := oneArg "len" _) (wpAny_pure ?_)
  refine wpAny_bind (m := callSpecial? (.ref a) (PySem.Str.ofString "__len__")) (csp_own sp1 (PySem.W.bind_fn I1.kIn _ c.ty) (thn key fun v s2 ⟨y, H2, I2, ry, n, ey, hn, q2⟩ => ?_))
  subst ey
  obtain ⟨t, rfl⟩ := (show ∃ t, v = Value.int n t from ry)
  refine wpAny_bind (wpAny_holding (wpAny_pure ?_))
  refine wpAny_bind (wpAny_letGo ?_)
  show wpAny _ _ (if ((n : Nat) : Int) < 0 then _ else _) _ _ _
  rw [if_neg (by omega)]
  show wpAny _ _ (if ((n : Nat) : Int) ≥ 2 ^ 63 then _ else _) _ _ _
  rw [if_neg (by omega)]
  exact wpAny_bind (wpAny_mkInt (wpAny_pure ⟨_, rfl, .int n, H2, I2.tok _, ⟨_, rfl⟩, q2⟩))
end
section
variable {X : Cx} {CX : CXT} {k : Nat} {C p g : Addr} {fd : FuncData} {ps : List Str} {mc : Value} {sp : Sp} {E : L2.St → XK} {o : Expr} {m : Str} {pos apos : Pos} {ta : TE}
def tCMeth0 (C : Addr) (sp : Sp) (E : L2.St → XK) (ta : TE) : TE := fun σ H Q => ta σ H fun x H1 => x = .ref C ∧ sp [.ref C] H1 Q (E σ)
theorem pe_cmeth0 {pl : Sem Bool} (he : PE X o ta) (r : ClX.CRead X.K C mc) (c : ClX.CMet X.K C mc m p g) (F : FnOk X.prog X.w X.K X.mg X.base CX k g fd ps sp) (hr : Room k X.A) (hb : Binds X.K fd ps []) (hx : ∀ σ, PassesAt CX X σ (E σ))
    (ht : eval (.Call (.Attribute o m apos) [] [] pos) X.env = (do
      let ov ← eval o X.env
      standAt apos.atName
      let (f, first) ← holding [ov] (getMethod ov m pl)
      callWith pos f first (backTo pos (starEach [] X.env)) (backToKw pos (keywordEach [] X.env)))) :
    PE X (.Call (.Attribute o m apos) [] [] pos) (tCMeth0 C sp E ta) := by
  refine ⟨fun pins s σ H Q I h => ?_⟩
  refine PySem.W.methodCall_KW (pl := pl) (thn (he.run pins s σ H _ I h) fun u s1 ⟨x, H1, I1, rx, ex, q⟩ => ?_) ht
  subst ex
  obtain rfl : u = Value.ref C := rx
  refine ClX.getmethcm_ok I1 r c fun s2 I2 => ?_
  refine PySem.W.callWith_M0 (first := []) ⟨ClX.pin_at I2, I2.kIn⟩ c.fi ?_
  show wpAny _ _ (call (.ref s1.heap.objs.size) []) _ _ _
  have hl1 : [Value.ref C].length = ps.length := F.len _ _ _ _ q
  have hbb := hb s2 [.ref C] I2.kIn (by rw [List.append_nil]; exact hl1)
  rw [List.append_nil] at hbb
  refine thn (Q := EP X ((s1.heap.objs.size, PySem.W.methodObj (.ref g) (.ref C)) :: pins) σ Q) (wpAny_call (PySem.W.method_call (ClX.pin_at I2) ?_)) fun _ _ y => ClX.unpinE y
  refine codeAny_mono (F.run X.A X.stack s2 H1 ⟨[.ref C], []⟩ [.ref C] [.ref C] _ (E σ) hr I2.env0 hbb (.cons rfl .nil) q) fun r s' hq => ?_
  cases r with
  | error e => exact hx σ _ H1 s2 e s' I2 hq
  | ok fl =>
    cases fl with
    | ret u => exact I2.after hq
    | next => exact False.elim hq
    | brk => exact False.elim hq
    | cont => exact False.elim hq
end
def GLen (M : Mach) (C : Addr) (k : Nat) (sp : DSp) : Prop := ∃ (f : Addr) (fd : FuncData) (ps : List Str), LenC M.K C f ∧ Binds M.K fd ps [] ∧ FnOk M.P M.w M.K M.mg M.base (L2N.CX M.P M.w) k f fd ps (liftSp M.K sp)
def GCm (M : Mach) (C : Addr) (m : Str) (k : Nat) (sp : DSp) : Prop := ∃ (mc : Value) (p g : Addr) (fd : FuncData) (ps : List Str), ClX.CRead M.K C mc ∧ ClX.CMet M.K C mc m p g ∧ Binds M.K fd ps [] ∧ FnOk M.P M.w M.K M.mg M.base (L2N.CX M.P M.w) k g fd ps (liftSp M.K sp)
theorem GLen.mono {M : Mach} {C : Addr} {j k : Nat} {sp : DSp} (h : GLen M C j sp) (l : j ≤ k) : GLen M C k sp := by
  obtain ⟨f, fd, ps, h1, h2, h3⟩ := h
  exact ⟨f, fd, ps, h1, h2, h3.mono l⟩
theorem GCm.mono {M : Mach} {C : Addr} {m : Str} {j k : Nat} {sp : DSp} (h : GCm M C m j sp) (l : j ≤ k) : GCm M C m k sp := by
  obtain ⟨mc, p, g, fd, ps, h1, h2, h3, h4⟩ := h
  exact ⟨mc, p, g, fd, ps, h1, h2, h3, h4.mono l⟩
section
variable {M : Mach} {X : Cx} {N : List Str} {sc : Scope} {vb lb gb : Str → Bool} {B : Bs} {G : Sl} {O : Own} {o : Expr} {apos pos p : Pos} {x m : Str} {k : Nat} {Cc : Addr} {sp : DSp} {Ψ : Xk}
/-- len(o) -/
theorem we_lenO {Φ : D → Own → Prop} (C : Cxt M X N sc vb lb gb) (f : GLen M Cc k sp) (hr : Room (k + 1) X.A) (tk : L2N.Takes X (wD X.K B Ψ)) (hm : M.mg "len" = none) (hg : gb "len" = true) (h : WE X B G O o fun d O1 => ∃ q dx fs, d = .obj q ∧ (q, OV.ins Cc dx fs) ∈ O1 ∧ DPost sp G (fun d O' => ∃ n : Nat, d = .int n ∧ n < 1000000 ∧ Φ (.int n) O') Ψ [.obj q] O1)
    (sa : Plain1 o := by exact fun _ _ => star_cons rfl) : WE X B G O (.Call (.Name "len" p) [o] [] pos) Φ := fun F σ H S Q kk => by
  obtain rfl := C.hM
  obtain ⟨f, fd, ps, h1, h3, h4⟩ := f
  refine sem (pe_lenO (E := fun σ cls dd H => wD X.K B Ψ cls dd σ H) pe_sem h1 h4 hr h3 (fun σ => L2N.passAt tk σ) (C.gl _ hg).1 hm (sa _ _)) ?_
  refine h F σ H S _ fun v F1 H1 d O1 S1 e1 r1 p1 => ?_
  obtain ⟨q, dx, fs, rfl, hmem, p1⟩ := p1
  cases r1
  obtain ⟨_, gs, g1, g2⟩ := S1.own _ hmem
  refine ⟨q, dx, gs, rfl, g1, post_run S1 (.cons (.obj q) .nil) p1 fun v F' H' d O' S' e' r' q' => ?_⟩
  obtain ⟨n, rfl, hn, q'⟩ := q'
  cases r'
  exact ⟨n, rfl, hn, kk _ F' H' _ O' S' (e1.trans e') (.int n) q'⟩
/-- C.m(), m a classmethod of the class C of the module -/
theorem we_cmeth0 {Φ : D → Own → Prop} {pl : Sem Bool} {p2 : Pos} (C : Cxt M X N sc vb lb gb) (gc : M.mg x = some (.ref Cc)) (f : GCm M Cc m k sp) (hr : Room k X.A) (tk : L2N.Takes X (wD X.K B Ψ)) (hg : gb x = true) (h : DPost sp G Φ Ψ [.obj Cc] O)
    (ht : eval (.Call (.Attribute (.Name x p2) m apos) [] [] pos) X.env = (do
      let ov ← eval (.Name x p2) X.env
      standAt apos.atName
      let (f, first) ← holding [ov] (getMethod ov m pl)
      callWith pos f first (backTo pos (starEach [] X.env)) (backToKw pos (keywordEach [] X.env))) := by rfl) : WE X B G O (.Call (.Attribute (.Name x p2) m apos) [] [] pos) Φ := fun F σ H S Q kk => by
  obtain rfl := C.hM
  obtain ⟨mc, pa, g, fd, ps, h1, h2, h3, h4⟩ := f
  refine sem (pe_cmeth0 (pl := pl) (E := fun σ cls dd H => wD X.K B Ψ cls dd σ H) (pe_glob (C.gl _ hg).1 gc (v := .ref Cc) rfl (C.gl _ hg).2) h1 h2 h4 hr h3 (fun σ => L2N.passAt tk σ) ht) ?_
  exact ⟨rfl, post_run S (.cons (.obj Cc) .nil) h fun v F' H' d O' S' e' r' q' => kk v F' H' d O' S' e' r' q'⟩
end
end Dl
set_option Elab.async false
set_option linter.all false
set_option maxRecDepth 100000
set_option maxHeartbeats 2000000
namespace Dl
open PySem PySem.Spec PyProof.Rows L2
section
variable {M : Mach} {X : Cx} {N : List Str} {sc : Scope} {vb lb gb : Str → Bool} {B : Bs} {G : Sl} {O : Own} {o e : Expr} {apos pos : Pos} {d1 : D}
theorem strs_reps {K : PySem.W.Frag} {F : Hp} : ∀ ys : List Str, Reps K F (ys.map V.str) (ys.map D.str)
  | [] => .nil
  | y :: ys => .cons (.str y) (strs_reps ys)
/-- a.join(list of texts) -/
theorem pv_join {a : Str} {ys : List Str} (ho : PEv X B G O o (.str a)) (he : PEv X B G O e d1) (it : ItemsL O d1 (ys.map D.str)) (hl : (ys.map (·.length)).sum + ys.length * a.length ≤ 16777216)
    (hs : starEach [e] X.env = [(false, eval e X.env)] := by exact star_cons rfl) (hbase : attributeBase o "join" X.env (eval o X.env) = eval o X.env := by rfl) (hline : (apos.endLine == pos.line) = true := by rfl) : PEv X B G O (.Call (.Attribute o "join" apos) [e] [] pos) (.str (Txt.join a ys)) := fun F σ H S Q kk => by
  refine sem (pe_join pe_sem pe_sem hs hbase hline) ?_
  refine ho F σ H S _ fun v F1 H1 d O1 S1 e1 r1 p1 => ?_
  obtain ⟨rfl, rfl⟩ := p1
  cases r1
  refine ⟨⟨a, rfl⟩, ?_⟩
  refine he F1 σ H1 S1 _ fun v F2 H2 d O2 S2 e2 r2 p2 => ?_
  obtain ⟨rfl, rfl⟩ := p2
  obtain ⟨p, vs, rfl, rs, hq⟩ := itemsL_ok S2 r2 it
  obtain rfl := reps_strs rs
  exact ⟨a, p, ys, rfl, rfl, .inl hq, hl, kk _ F2 H2 _ _ S2 (e1.trans e2) (.str _) ⟨rfl, rfl⟩⟩
/-- a.split(b) -/
theorem wn_split {a b : Str} {Φ : List D → Own → Prop} (ho : PEv X B G O o (.str a)) (he : PEv X B G O e (.str b)) (hb : (b.length == 0) = false) (hl : a.length + 2 ≤ 16777216) (h : Φ ((Txt.split a b).map D.str) O)
    (hs : starEach [e] X.env = [(false, eval e X.env)] := by exact star_cons rfl) (hbase : attributeBase o "split" X.env (eval o X.env) = eval o X.env := by rfl) (hline : (apos.endLine == pos.line) = true := by rfl) : WN X B G O (.Call (.Attribute o "split" apos) [e] [] pos) Φ := fun F σ H S Q kk => by
  refine sem (pe_split pe_sem pe_sem hs hbase hline) ?_
  refine ho F σ H S _ fun v F1 H1 d O1 S1 e1 r1 p1 => ?_
  obtain ⟨rfl, rfl⟩ := p1
  cases r1
  refine ⟨⟨a, rfl⟩, ?_⟩
  refine he F1 σ H1 S1 _ fun v F2 H2 d O2 S2 e2 r2 p2 => ?_
  obtain ⟨rfl, rfl⟩ := p2
  cases r2
  exact ⟨a, b, rfl, rfl, hb, Nat.le_trans hl (by decide), fun p hp => kk p _ F2 _ _ (S2.allocOwn hp (ov := .lst ((Txt.split a b).map D.str)) ⟨_, upd_same, strs_reps _⟩) (e1.trans e2) h⟩
end
end Dl
set_option Elab.async false
set_option linter.all false
set_option maxRecDepth 100000
set_option maxHeartbeats 2000000
namespace Dl
open PySem PySem.Spec PyProof.Rows L2
section
variable {M : Mach} {X : Cx} {B : Bs} {G : Sl} {O : Own} {e : Expr}
theorem we_frzO {Φ : D → Own → Prop} (h : WE X B G O e fun d O1 => ∃ a ds O2, d = .obj a ∧ ODel O1 a (.lst ds) O2 ∧ Φ (.lst ds) O2) : WE X B G O e Φ := fun F σ H S Q k => h F σ H S Q fun v F1 H1 d O1 S1 e1 r1 p1 => by
  obtain ⟨a, ds, O2, rfl, hd, p⟩ := p1
  obtain ⟨vs, hv, r, e2, S2⟩ := S1.freeze hd
  cases r1
  exact k _ _ _ _ _ S2 (e1.trans e2) (.lst (SqL.of upd_same) (r.mono e2)) p
theorem pv_frzO {xs : List D} (h : WE X B G O e fun d O1 => ∃ a, d = .obj a ∧ O1 = (a, .lst xs) :: O) : PEv X B G O e (.lst xs) := we_frzO (WE.mono h fun d O1 ⟨a, e1, e2⟩ => ⟨a, xs, O, e1, by subst e2; exact .z, rfl, rfl⟩)
end
end Dl
set_option Elab.async false
set_option linter.all false
set_option maxRecDepth 100000
set_option maxHeartbeats 2000000
namespace G42
open PySem PySem.Spec PyProof.Rows L2 Dl
local macro_rules | `(tactic| exists "va") => `(tactic| first | with_reducible exact VarAt.z | ((with_reducible apply VarAt.s); exists "va"))
local macro_rules | `(tactic| exists "sa") => `(tactic| first | with_reducible exact SetAt.z | ((with_reducible apply SetAt.s); exists "sa"))
local macro_rules | `(tactic| exists "mem") => `(tactic| with_reducible first | exact List.mem_cons_self | exact List.mem_cons_of_mem _ (List.mem_cons_self) | exact List.mem_cons_of_mem _ (List.mem_cons_of_mem _ (List.mem_cons_self)) | exact List.mem_cons_of_mem _ (List.mem_cons_of_mem _ (List.mem_cons_of_mem _ (List.mem_cons_self))) | exact List.mem_cons_of_mem _ (List.mem_cons_of_mem _ (List.mem_cons_of_mem _ (List.mem_cons_of_mem _ (List.mem_cons_self)))) | exact List.mem_cons_of_mem _ (List.mem_cons_of_mem _ (List.mem_cons_of_mem _ (List.mem_cons_of_mem _ (List.mem_cons_of_mem _ (List.mem_cons_self))))) | exact List.mem_cons_of_mem _ (List.mem_cons_of_mem _ (List.mem_cons_of_mem _ (List.mem_cons_of_mem _ (List.mem_cons_of_mem _ (List.mem_cons_of_mem _ (List.mem_cons_self)))))) | exact List.mem_cons_of_mem _ (List.mem_cons_of_mem _ (List.mem_cons_of_mem _ (List.mem_cons_of_mem _ (List.mem_cons_of_mem _ (List.mem_cons_of_mem _ (List.mem_cons_of_mem _ (List.mem_cons_self))))))) | assumption)
local macro_rules | `(tactic| exists "os") => `(tactic| with_reducible first | exact OSet.z | exact OSet.s OSet.z | exact OSet.s (OSet.s OSet.z) | exact OSet.s (OSet.s (OSet.s OSet.z)) | exact OSet.s (OSet.s (OSet.s (OSet.s OSet.z))))
local macro_rules | `(tactic| exists "od") => `(tactic| with_reducible first | exact ODel.z | exact ODel.s ODel.z | exact ODel.s (ODel.s ODel.z) | exact ODel.s (ODel.s (ODel.s ODel.z)) | exact ODel.s (ODel.s (ODel.s (ODel.s ODel.z))))
local macro_rules | `(tactic| exists "it") => `(tactic| first | exact Items.tup | exact Items.lst | (apply Items.own; exists "mem"))
local macro_rules | `(tactic| exists "il") => `(tactic| first | exact ItemsL.lst | (apply ItemsL.own; exists "mem"))
local macro_rules | `(tactic| exists "at") => `(tactic| first | exact at0 | exact at1 | exact at2 | exact at3 | exact at4 | assumption)
local macro_rules | `(tactic| exists "kt") => `(tactic| with_reducible first | exact kt_NoneType_int | exact kt_NoneType_bool | exact kt_NoneType_str | exact kt_NoneType_tuple | exact kt_NoneType_list | exact kt_bool_int | exact kt_bool_bool | exact kt_bool_str | exact kt_bool_tuple | exact kt_bool_list | exact kt_int_int | exact kt_int_bool | exact kt_int_str | exact kt_int_tuple | exact kt_int_list | exact kt_str_int | exact kt_str_bool | exact kt_str_str | exact kt_str_tuple | exact kt_str_list | exact kt_tuple_int | exact kt_tuple_bool | exact kt_tuple_str | exact kt_tuple_tuple | exact kt_tuple_list | exact kt_list_int | exact kt_list_bool | exact kt_list_str | exact kt_list_tuple | exact kt_list_list)
local macro_rules | `(tactic| exists "td") => `(tactic| first | exact TyD.int _ | exact TyD.str _ | exact TyD.tup _ | exact TyD.lst _ | exact TyD.bl _ | exact TyD.non | (apply TyD.own; exists "mem") | assumption)
local macro_rules | `(tactic| exists "ea") => `(tactic| first | with_reducible exact pa_nilv | ((with_reducible apply pa_consv); exists "ev"; exists "ea"; exact star_cons rfl))
local macro_rules | `(tactic| exists "en") => `(tactic| first | ((with_reducible apply pn_lst); exists "ea"; exact Nat.le_of_ble_eq_true rfl))
local macro_rules | `(tactic| exists "ev") => `(tactic| first
  | with_reducible exact pv_int | with_reducible exact pv_str | with_reducible exact pv_non | with_reducible exact pv_bl
  | ((with_reducible apply pv_var); assumption; exists "va"; decide +kernel)
  | ((with_reducible apply pv_add); exists "ev"; exists "ev") | ((with_reducible apply pv_sub); exists "ev"; exists "ev")
  | ((with_reducible apply pv_ix); exists "ev"; exists "ev"; exists "it"; exists "at"; intro _ _; rfl)
  | ((with_reducible apply pv_tup); exists "ea"; exact Nat.le_of_ble_eq_true rfl)
  | ((with_reducible apply pv_globI); assumption; assumption; decide +kernel)
  | ((with_reducible apply pv_len); assumption; exists "ev"; exists "it"; assumption; decide +kernel; exact fun _ _ => star_cons rfl)
  | ((with_reducible apply pv_min2); assumption; exists "ev"; exists "ev"; assumption; decide +kernel; exact fun _ _ => star_cons rfl; exact fun _ _ => star_cons rfl)
  | ((with_reducible apply pv_max2); assumption; exists "ev"; exists "ev"; assumption; decide +kernel; exact fun _ _ => star_cons rfl; exact fun _ _ => star_cons rfl)
  | ((with_reducible first | apply pv_tInt | apply pv_tBool | apply pv_tStr | apply pv_tTup | apply pv_tLst); assumption; assumption; decide +kernel)
  | ((with_reducible apply pv_isi); assumption; assumption; decide +kernel; exists "ev"; exists "td"; exists "ev"; exists "kt"; exact fun _ _ => star_cons rfl; exact fun _ _ => star_cons rfl)
  | ((with_reducible apply pv_leLe); exists "ev"; exists "ev"; exists "ev"; with_unfolding_all rfl)
  | ((with_reducible apply pv_not); exists "ev")
  | ((with_reducible apply pv_neg); exists "ev")
  | ((with_reducible apply pv_mod); exists "ev"; exists "ev"; first | assumption | decide)
  | ((with_reducible apply pv_fdiv); exists "ev"; exists "ev"; first | assumption | exact ⟨by decide, by decide⟩)
  | ((with_reducible apply pv_mul); exists "ev"; exists "ev"; first | assumption | exact Or.inl ⟨by decide, by decide⟩ | exact Or.inr ⟨by decide, by decide⟩)
  | ((with_reducible apply pv_pow); exists "ev"; exists "ev"; first | assumption | exact ⟨by decide, by decide, by decide⟩)
  | ((with_reducible apply pv_frz); exists "en"))
local macro_rules | `(tactic| exists "et") => `(tactic| first
  | ((with_reducible apply pt_lt); exists "ev"; exists "ev") | ((with_reducible apply pt_le); exists "ev"; exists "ev") | ((with_reducible apply pt_gt); exists "ev"; exists "ev") | ((with_reducible apply pt_ge); exists "ev"; exists "ev")
  | ((with_reducible apply pt_is); exists "ev"; exists "ev") | ((with_reducible apply pt_isnot); exists "ev"; exists "ev")
  | ((with_reducible apply pt_eq); exists "ev"; exists "ev"; rfl) | ((with_reducible apply pt_ne); exists "ev"; exists "ev"; rfl)
  | ((with_reducible apply pt_notv); exists "et") | (apply PWv.t; exists "ew") | ((with_reducible apply pt_v); exists "ev"; intro _; rfl))
local macro_rules | `(tactic| exists "ew") => `(tactic| first
  | ((with_reducible apply pwv_and); exists "et"; intro _; exists "ew") | ((with_reducible apply pwv_and1); exists "et") | ((with_reducible apply pwv_or); exists "et"; intro _; exists "ew") | ((with_reducible apply pwv_or1); exists "et"))
local macro_rules | `(tactic| exists "t1") => `(tactic| refine wg_name (by assumption) (by exists "sa") (by decide +kernel) trivial ?_)
local macro_rules | `(tactic| exists "t2") => `(tactic| refine wg_tup (by assumption) (wgs_cons (wg_name (by assumption) (by exists "sa") (by decide +kernel) trivial (wgs_cons (wg_name (by assumption) (by exists "sa") (by decide +kernel) trivial (wgs_nil ?_))))))
local macro_rules | `(tactic| exists "t3") => `(tactic| refine wg_tup (by assumption) (wgs_cons (wg_name (by assumption) (by exists "sa") (by decide +kernel) trivial (wgs_cons (wg_name (by assumption) (by exists "sa") (by decide +kernel) trivial (wgs_cons (wg_name (by assumption) (by exists "sa") (by decide +kernel) trivial (wgs_nil ?_))))))))
local macro_rules | `(tactic| exists "nx") => `(tactic| dsimp only [List.cons_append, List.nil_append, to_nx, to_rt, to_bk, to_ct, loop_nx, loop_rt, loop_bk, loop_ct, fn_nx, fn_rt])
local macro_rules | `(tactic| exists "fz") => `(tactic| repeat first | with_reducible exact FrzAt.nil | with_reducible apply FrzAt.hit | with_reducible apply FrzAt.miss)
local macro_rules | `(tactic| exists "p2") => `(tactic| refine ws_par (by assumption) (by exists "sa") (fun _ => by exists "sa") rfl rfl rfl (by decide +kernel) (by decide) rfl rfl ?_)
local macro_rules | `(tactic| exists "p3") => `(tactic| refine ws_par3 (by assumption) (by exists "sa") (fun _ => by exists "sa") (fun _ _ => by exists "sa") rfl rfl rfl rfl rfl (by decide +kernel) (by decide) (by decide) (by decide) rfl rfl ?_)
local macro_rules | `(tactic| exists "wp") => `(tactic| simp only [wipeD, List.map_cons, List.map_nil, List.set_cons_succ, List.set_cons_zero])
def topS (i : Nat) : Stmt := PySem.Challenge.pw_lapsepoints_k19_whole_edges.main.body.getD i (.Pass ⟨0, 0, 0, 0⟩)
def clsM (s : Stmt) : Stmt := match s with
  | .ClassDef _ _ _ (m :: _) _ _ _ _ _ _ _ => m
  | _ => .Pass ⟨0, 0, 0, 0⟩
def clsAt (s : Stmt) (n : Nat) : Stmt := match s with
  | .ClassDef _ _ _ b _ _ _ _ _ _ _ => b.getD n (.Pass ⟨0, 0, 0, 0⟩)
  | _ => .Pass ⟨0, 0, 0, 0⟩
abbrev xNames : List Str := ["InvalidLog", "InvalidLife", "InvalidTime", "InvalidAmount", "InvalidIndex", "InvalidChoice", "InvalidSeen", "InvalidNumber", "NotEnough", "NothingToUndo", "Refused", "TooMany"]
def excB (K : PySem.W.Frag) (D : Addr) : Bool := decide (PySem.W.findIn K (.ref D) "__getattribute__" = some (some (.builtin "BaseException.__getattribute__"))) && (decide (PySem.W.findIn K (.ref D) "__getattr__" = some none) && (decide (PySem.W.subIn K (.ref D) (.type "BaseException") = some true) && (PySem.W.hasDictIn K D &&
  (decide (PySem.W.findIn K (.ref D) "__class__" = some (some (.builtin "object.__class__"))) && (decide (PySem.W.specialIn K (.builtin "object.__class__") "__get__" = some (some (.builtin "getset_descriptor.__get__"))) && (decide (PySem.W.takesIn K (.builtin "object.__class__") = some true) && decide (PySem.W.mroIn K D (.type "object") = some true)))))))
def oexB (K : PySem.W.Frag) (C : Addr) : Bool := (match K.lookup C with
  | some ⟨.type "type", _, .cls cd, sl⟩ => (match cd.mro, sl.toList with
    | .ref C' :: bm, [_, _, _, _, some (.builtin n), _] => C' == C && (n == "ValueError.__new__" && (!cd.hasDel && (cd.hasDict && PySem.HandSPX.refsVE bm)))
    | _, _ => false)
  | _ => false) && (decide (PySem.W.findIn K (.ref C) "__setattr__" = some (some (.builtin "object.__setattr__"))) && (decide (PySem.W.subIn K (.ref C) (.type "BaseException") = some true) && (decide (PySem.W.typeIn K (.ref C) = some (.type "type")) && PySem.W.keepIn K (.ref C))))
def veB (K : PySem.W.Frag) (B : Addr) : Bool := decide (PySem.W.specialIn K (.ref B) "__getattribute__" = some (some (.builtin "type.__getattribute__"))) && (PySem.W.readsIn K B (.type "type") && (match PySem.W.findCls K (.ref B) (.type "type") "__init__" with
  | some (.val v) => decide (v = .builtin "ValueError.__init__")
  | _ => false))
def excN (K : PySem.W.Frag) (x : Str) : Bool := excB K (He.ga K x) && ((xNames.all fun n => decide (PySem.W.kitOne K (.ref (He.ga K x)) (.ref (He.ga K n)) = some (decide (n = x)))) && (decide (PySem.W.kitOne K (.ref (He.ga K x)) (.type "ValueError") = some true) && decide (PySem.W.kitOne K (.ref (He.ga K x)) (.ref (He.ga K "PointError")) = some true)))
def ownN (K : PySem.W.Frag) (x f : Str) : Bool := xfB K (He.ga K x) && (decide (PySem.W.findIn K (.ref (He.ga K x)) f = some none) && (oexB K (He.ga K x) && (decide (PySem.W.findIn K (.ref (He.ga K x)) "__init__" = some (some (.ref (He.fAd K (x, some "__init__"))))) && (decide (PySem.W.typeIn K (.ref (He.fAd K (x, some "__init__"))) = some (.type "function")) && veB K (He.ga K "PointError")))))
def accB (K : PySem.W.Frag) : Bool := He.conB K "Account" "MOST" (.int 30) && (He5.wrapB K (He.ga K "Account") "classmethod" "classmethod.__get__" "yearly" && (PySem.W.fnIn K (He5.wf K (He.ga K "Account") "classmethod" "yearly") && PySem.W.readsIn K (He.ga K "Account") (.type "type")))
def exOk19 (K : PySem.W.Frag) : Bool := (xNames.all fun x => excN K x) && (ownN K "Refused" "index" && (ownN K "TooMany" "limit" && accB K))
def codesY (g : Addr → Option Obj) (as : List Addr) : List Addr := as.flatMap fun a => match g a with
  | some o => (match o.data with
    | .func fd => He.refV fd.code
    | _ => [])
  | none => []
def asY (g : Addr → Option Obj) (n : Nat) : List Addr := He.asD g n ++ (codesY g (He.asD g n) ++ [cStatics])
abbrev AlW : Type := He.AlX × List He5.FnW
def obsW (n : Nat) (fa : List He.Fa) (fn : List He.DefD) (fw : List He5.DefA) (tf : List He.Defn) (ex : PySem.W.Frag → Bool) (g : Addr → Option Obj) : AlW :=
  ((He.obsT fa fn [] (He.frT g (asY g n)), (ex (He.frT g (asY g n)) && fw.all fun d => d.ok (He.frT g (asY g n))) && He.tabsB g tf (He.frT g (asY g n))), fw.map fun d => He5.fnA (He.frT g (asY g n)) (d.at_ (He.frT g (asY g n))))
def valW (fn : List He.DefD) (fw : List He5.DefA) (w : World) : AlW := (He.valX fn [] w, fw.map He5.DefA.val)
def exW (fw : List He5.DefA) (ex : PySem.W.Frag → Bool) (K : PySem.W.Frag) : Bool := ex K && fw.all fun d => d.ok K
def SaysW (fa : List He.Fa) (fn : List He.DefD) (fw : List He5.DefA) (tf : List He.Defn) (ex : PySem.W.Frag → Bool) (w : World) (h : Heap) (K : PySem.W.Frag) : Prop := He.SaysX fa fn [] tf (exW fw ex) w h K ∧ fw.map (fun d => He5.fnA K (d.at_ K)) = fw.map He5.DefA.val
theorem saysW_of {n : Nat} {fa : List He.Fa} {fn : List He.DefD} {fw : List He5.DefA} {tf : List He.Defn} {ex : PySem.W.Frag → Bool} {w : World} {h : Heap} (e : obsW n fa fn fw tf ex h.get? = valW fn fw w) : SaysW fa fn fw tf ex w h (He.frT h.get? (asY h.get? n)) := by
  have e0 : (He.obsT fa fn [] (He.frT h.get? (asY h.get? n)), exW fw ex (He.frT h.get? (asY h.get? n)) && He.tabsB h.get? tf (He.frT h.get? (asY h.get? n))) = He.valX fn [] w := congrArg (fun z : AlW => z.1) e
  have e1 : He.obsT fa fn [] (He.frT h.get? (asY h.get? n)) = He.valT fn [] w := congrArg (fun z : He.AlX => z.1) e0
  have e2 : (exW fw ex (He.frT h.get? (asY h.get? n)) && He.tabsB h.get? tf (He.frT h.get? (asY h.get? n))) = true := congrArg (fun z : He.AlX => z.2) e0
  have e3 : fw.map (fun d => He5.fnA (He.frT h.get? (asY h.get? n)) (d.at_ (He.frT h.get? (asY h.get? n)))) = fw.map He5.DefA.val := congrArg (fun z : AlW => z.2) e
  obtain ⟨h1, h2⟩ := He.ba e2
  have key : ∀ p ∈ tf, PySem.W.codeHdIn (He.frT h.get? (asY h.get? n)) (He.cT (He.frT h.get? (asY h.get? n)) p).1 (He.cT (He.frT h.get? (asY h.get? n)) p).2 = true ∧ ∃ o, h.get? (He.cT (He.frT h.get? (asY h.get? n)) p).2 = some o ∧ He.emptyTab o = true := fun p hp => by
    obtain ⟨h3, h4⟩ := He.ba (List.all_eq_true.mp h2 p hp)
    refine ⟨h3, ?_⟩
    cases q : h.get? (He.cT (He.frT h.get? (asY h.get? n)) p).2 with
    | none =>
      rw [q] at h4
      cases h4
    | some o =>
      rw [q] at h4
      exact ⟨o, rfl, h4⟩
  exact ⟨⟨e1, h1, fun p hp => (key p hp).1, fun p hp => by
    obtain ⟨_, o, q, z⟩ := key p hp
    exact He.frT_none q z, fun p hp => by
    obtain ⟨_, o, q, z⟩ := key p hp
    rw [q, He.emptyTab_eq z]⟩, e3⟩
def hookW (n : Nat) (fa : List He.Fa) (fn : List He.DefD) (fw : List He5.DefA) (tf : List He.Defn) (ex : PySem.W.Frag → Bool) : PySem.W.Hook where
  α := AlW
  obs := fun s => obsW n fa fn fw tf ex s.heap.get?
  val := fun w => valW fn fw w
  says := fun w h => ∃ K : PySem.W.Frag, K.In h ∧ SaysW fa fn fw tf ex w h K
  of := fun _ _ e => ⟨_, He.frT_in, saysW_of e⟩
  keeps := fun _ _ _ ⟨K, hK, c, e⟩ k => ⟨K, PySem.W.Frag.In.keeps hK k, ⟨c.t, c.more, c.hd, c.out, fun p hp => k _ _ (c.empty p hp)⟩, e⟩
theorem obsW_eq {n : Nat} {fa : List He.Fa} {fn : List He.DefD} {fw : List He5.DefA} {tf : List He.Defn} {ex : PySem.W.Frag → Bool} {g : Addr → Option Obj} {s : Shared} (h : ∀ a, g a = s.heap.get? a) : obsW n fa fn fw tf ex g = (hookW n fa fn fw tf ex).obs s := by
  have e : g = s.heap.get? := funext h
  rw [e] <;> rfl
def dd_lapse : He.DefD := ⟨("lapse", none), "lapse", "lapse", defArgs (topS 26), defBody (topS 26), defScope (topS 26), [], []⟩
def dd_take : He.DefD := ⟨("take", none), "take", "take", defArgs (topS 27), defBody (topS 27), defScope (topS 27), [], []⟩
def dd_play : He.DefD := ⟨("play", none), "play", "play", defArgs (topS 28), defBody (topS 28), defScope (topS 28), [], []⟩
def dd_is_from : He.DefD := ⟨("is_from", none), "is_from", "is_from", defArgs (topS 20), defBody (topS 20), defScope (topS 20), [], []⟩
def dd_is_event : He.DefD := ⟨("is_event", none), "is_event", "is_event", defArgs (topS 21), defBody (topS 21), defScope (topS 21), [], []⟩
def dd_is_log : He.DefD := ⟨("is_log", none), "is_log", "is_log", defArgs (topS 22), defBody (topS 22), defScope (topS 22), [], []⟩
def dd_need_log : He.DefD := ⟨("need_log", none), "need_log", "need_log", defArgs (topS 23), defBody (topS 23), defScope (topS 23), [], []⟩
def dd_need_life : He.DefD := ⟨("need_life", none), "need_life", "need_life", defArgs (topS 24), defBody (topS 24), defScope (topS 24), [], []⟩
def dd_need_moment : He.DefD := ⟨("need_moment", none), "need_moment", "need_moment", defArgs (topS 25), defBody (topS 25), defScope (topS 25), [], []⟩
def dd_refused_at : He.DefD := ⟨("refused_at", none), "refused_at", "refused_at", defArgs (topS 29), defBody (topS 29), defScope (topS 29), [], []⟩
def dd_need_possible : He.DefD := ⟨("need_possible", none), "need_possible", "need_possible", defArgs (topS 30), defBody (topS 30), defScope (topS 30), [], []⟩
def dd_need_asked : He.DefD := ⟨("need_asked", none), "need_asked", "need_asked", defArgs (topS 34), defBody (topS 34), defScope (topS 34), [], []⟩
def dd_merged : He.DefD := ⟨("merged", none), "merged", "merged", defArgs (topS 35), defBody (topS 35), defScope (topS 35), [], []⟩
def dd_lapsed_by : He.DefD := ⟨("lapsed_by", none), "lapsed_by", "lapsed_by", defArgs (topS 36), defBody (topS 36), defScope (topS 36), [], []⟩
def dd_balance_of : He.DefD := ⟨("balance_of", none), "balance_of", "balance_of", defArgs (topS 37), defBody (topS 37), defScope (topS 37), [], []⟩
def dd_all_lapses : He.DefD := ⟨("all_lapses", none), "all_lapses", "all_lapses", defArgs (topS 38), defBody (topS 38), defScope (topS 38), [], []⟩
def dd_lapsed : He.DefD := ⟨("lapsed", none), "lapsed", "lapsed", defArgs (topS 40), defBody (topS 40), defScope (topS 40), [], []⟩
def dd_balance : He.DefD := ⟨("balance", none), "balance", "balance", defArgs (topS 39), defBody (topS 39), defScope (topS 39), [], []⟩
def dd_worst_moment : He.DefD := ⟨("worst_moment", none), "worst_moment", "worst_moment", defArgs (topS 43), defBody (topS 43), defScope (topS 43), [], []⟩
def dd__law_deck : He.DefD := ⟨("_law_deck", none), "_law_deck", "_law_deck", defArgs (topS 82), defBody (topS 82), defScope (topS 82), [], []⟩
def dd__law_pick : He.DefD := ⟨("_law_pick", none), "_law_pick", "_law_pick", defArgs (topS 83), defBody (topS 83), defScope (topS 83), [], []⟩
def dd_with_more : He.DefD := ⟨("with_more", none), "with_more", "with_more", defArgs (topS 51), defBody (topS 51), defScope (topS 51), [], []⟩
def dd_difference : He.DefD := ⟨("difference", none), "difference", "difference", defArgs (topS 53), defBody (topS 53), defScope (topS 53), [], []⟩
def dd_need_kind : He.DefD := ⟨("need_kind", none), "need_kind", "need_kind", defArgs (topS 52), defBody (topS 52), defScope (topS 52), [], []⟩
def dd_after_more_earned : He.DefD := ⟨("after_more_earned", none), "after_more_earned", "after_more_earned", defArgs (topS 54), defBody (topS 54), defScope (topS 54), [], []⟩
def dd_is_part : He.DefD := ⟨("is_part", none), "is_part", "is_part", defArgs (topS 56), defBody (topS 56), defScope (topS 56), [], []⟩
def dd_used_by : He.DefD := ⟨("used_by", none), "used_by", "used_by", defArgs (topS 57), defBody (topS 57), defScope (topS 57), [], []⟩
def dd_fits : He.DefD := ⟨("fits", none), "fits", "fits", defArgs (topS 58), defBody (topS 58), defScope (topS 58), [], []⟩
def dd_is_choice : He.DefD := ⟨("is_choice", none), "is_choice", "is_choice", defArgs (topS 59), defBody (topS 59), defScope (topS 59), [], []⟩
def dd_oldest_choice : He.DefD := ⟨("oldest_choice", none), "oldest_choice", "oldest_choice", defArgs (topS 60), defBody (topS 60), defScope (topS 60), [], []⟩
def dd_lapses : He.DefD := ⟨("lapses", none), "lapses", "lapses", defArgs (topS 42), defBody (topS 42), defScope (topS 42), [], []⟩
def dd_fates : He.DefD := ⟨("fates", none), "fates", "fates", defArgs (topS 44), defBody (topS 44), defScope (topS 44), [], []⟩
def dd_rescue : He.DefD := ⟨("rescue", none), "rescue", "rescue", defArgs (topS 79), defBody (topS 79), defScope (topS 79), [], []⟩
def dd_rescued : He.DefD := ⟨("rescued", none), "rescued", "rescued", defArgs (topS 80), defBody (topS 80), defScope (topS 80), [], []⟩
def dd_need_regular : He.DefD := ⟨("need_regular", none), "need_regular", "need_regular", defArgs (topS 74), defBody (topS 74), defScope (topS 74), [], []⟩
def dd_excess : He.DefD := ⟨("excess", none), "excess", "excess", defArgs (topS 75), defBody (topS 75), defScope (topS 75), [], []⟩
def dd_regular_lapsed : He.DefD := ⟨("regular_lapsed", none), "regular_lapsed", "regular_lapsed", defArgs (topS 76), defBody (topS 76), defScope (topS 76), [], []⟩
def dd_first_lapse : He.DefD := ⟨("first_lapse", none), "first_lapse", "first_lapse", defArgs (topS 77), defBody (topS 77), defScope (topS 77), [], []⟩
def dd_first_of : He.DefD := ⟨("first_of", none), "first_of", "first_of", defArgs (topS 66), defBody (topS 66), defScope (topS 66), [], []⟩
def dd_best_range : He.DefD := ⟨("best_range", none), "best_range", "best_range", defArgs (topS 67), defBody (topS 67), defScope (topS 67), [], []⟩
def dd_need_seen : He.DefD := ⟨("need_seen", none), "need_seen", "need_seen", defArgs (topS 65), defBody (topS 65), defScope (topS 65), [], []⟩
def dd_fit_life : He.DefD := ⟨("fit_life", none), "fit_life", "fit_life", defArgs (topS 68), defBody (topS 68), defScope (topS 68), [], []⟩
def dd_put_together : He.DefD := ⟨("put_together", none), "put_together", "put_together", defArgs (topS 46), defBody (topS 46), defScope (topS 46), [], []⟩
def dd_together : He.DefD := ⟨("together", none), "together", "together", defArgs (topS 47), defBody (topS 47), defScope (topS 47), [], []⟩
def dd_saved_together : He.DefD := ⟨("saved_together", none), "saved_together", "saved_together", defArgs (topS 48), defBody (topS 48), defScope (topS 48), [], []⟩
def dd_left : He.DefD := ⟨("left", none), "left", "left", defArgs (topS 41), defBody (topS 41), defScope (topS 41), [], []⟩
def dd_first_refused : He.DefD := ⟨("first_refused", none), "first_refused", "first_refused", defArgs (topS 31), defBody (topS 31), defScope (topS 31), [], []⟩
def dd_is_possible : He.DefD := ⟨("is_possible", none), "is_possible", "is_possible", defArgs (topS 32), defBody (topS 32), defScope (topS 32), [], []⟩
def dd_newest_choice : He.DefD := ⟨("newest_choice", none), "newest_choice", "newest_choice", defArgs (topS 61), defBody (topS 61), defScope (topS 61), [], []⟩
def dd_range_for : He.DefD := ⟨("range_for", none), "range_for", "range_for", defArgs (topS 69), defBody (topS 69), defScope (topS 69), [], []⟩
def dd_fit_amount : He.DefD := ⟨("fit_amount", none), "fit_amount", "fit_amount", defArgs (topS 70), defBody (topS 70), defScope (topS 70), [], []⟩
def dd_fit_earning : He.DefD := ⟨("fit_earning", none), "fit_earning", "fit_earning", defArgs (topS 71), defBody (topS 71), defScope (topS 71), [], []⟩
def dd_a_init : He.DefD := ⟨("Account", some "__init__"), "__init__", "Account.__init__", defArgs (clsAt (topS 49) 1), defBody (clsAt (topS 49) 1), defScope (clsAt (topS 49) 1), [], []⟩
def dd_a_len : He.DefD := ⟨("Account", some "__len__"), "__len__", "Account.__len__", defArgs (clsAt (topS 49) 3), defBody (clsAt (topS 49) 3), defScope (clsAt (topS 49) 3), [], []⟩
def dd_a_change : He.DefD := ⟨("Account", some "change"), "change", "Account.change", defArgs (clsAt (topS 49) 5), defBody (clsAt (topS 49) 5), defScope (clsAt (topS 49) 5), [], []⟩
def dd_a_nt : He.DefD := ⟨("Account", some "need_time"), "need_time", "Account.need_time", defArgs (clsAt (topS 49) 6), defBody (clsAt (topS 49) 6), defScope (clsAt (topS 49) 6), [], []⟩
def dd_a_earn : He.DefD := ⟨("Account", some "earn"), "earn", "Account.earn", defArgs (clsAt (topS 49) 7), defBody (clsAt (topS 49) 7), defScope (clsAt (topS 49) 7), [], []⟩
def dd_a_spend : He.DefD := ⟨("Account", some "spend"), "spend", "Account.spend", defArgs (clsAt (topS 49) 8), defBody (clsAt (topS 49) 8), defScope (clsAt (topS 49) 8), [], []⟩
def dd_a_wait : He.DefD := ⟨("Account", some "wait"), "wait", "Account.wait", defArgs (clsAt (topS 49) 9), defBody (clsAt (topS 49) 9), defScope (clsAt (topS 49) 9), [], []⟩
def dd_a_rem : He.DefD := ⟨("Account", some "remaining"), "remaining", "Account.remaining", defArgs (clsAt (topS 49) 16), defBody (clsAt (topS 49) 16), defScope (clsAt (topS 49) 16), [], []⟩
def dd_refinit : He.DefD := ⟨("Refused", some "__init__"), "__init__", "Refused.__init__", defArgs (clsM (topS 12)), defBody (clsM (topS 12)), defScope (clsM (topS 12)), [], []⟩
def dd_manyinit : He.DefD := ⟨("TooMany", some "__init__"), "__init__", "TooMany.__init__", defArgs (clsM (topS 13)), defBody (clsM (topS 13)), defScope (clsM (topS 13)), [], []⟩
def dd__law_none_right : He.DefD := ⟨("_law_none_right", none), "_law_none_right", "_law_none_right", defArgs (topS 86), defBody (topS 86), defScope (topS 86), [], []⟩
def dd__law_one_right : He.DefD := ⟨("_law_one_right", none), "_law_one_right", "_law_one_right", defArgs (topS 87), defBody (topS 87), defScope (topS 87), [], []⟩
def dd__law_name_of : He.DefD := ⟨("_law_name_of", none), "_law_name_of", "_law_name_of", defArgs (topS 84), defBody (topS 84), defScope (topS 84), [], []⟩
def dd__law_made_right : He.DefD := ⟨("_law_made_right", none), "_law_made_right", "_law_made_right", defArgs (topS 89), defBody (topS 89), defScope (topS 89), [], []⟩
def dd__law_many_right : He.DefD := ⟨("_law_many_right", none), "_law_many_right", "_law_many_right", defArgs (topS 88), defBody (topS 88), defScope (topS 88), [], []⟩
def dd_law : He.DefD := ⟨("law", none), "law", "law", defArgs (topS 90), defBody (topS 90), defScope (topS 90), [], []⟩
def hdFn_0 : List He.DefD := [dd_lapse, dd_take, dd_play, dd_is_from, dd_is_event, dd_is_log, dd_need_log, dd_need_life, dd_need_moment, dd_refused_at, dd_need_possible, dd_need_asked, dd_merged, dd_lapsed_by, dd_balance_of, dd_all_lapses, dd_lapsed, dd_balance, dd_worst_moment, dd__law_deck, dd__law_pick, dd_with_more, dd_difference, dd_need_kind, dd_after_more_earned, dd_is_part, dd_used_by, dd_fits, dd_is_choice, dd_oldest_choice]
def hdFn_1 : List He.DefD := [dd_lapses, dd_fates, dd_rescue, dd_rescued, dd_need_regular, dd_excess, dd_regular_lapsed, dd_first_lapse, dd_first_of, dd_best_range, dd_need_seen, dd_fit_life, dd_put_together, dd_together, dd_saved_together, dd_left, dd_first_refused, dd_is_possible, dd_newest_choice, dd_range_for, dd_fit_amount, dd_fit_earning, dd_a_init, dd_a_len, dd_a_change, dd_a_nt, dd_a_earn, dd_a_spend, dd_a_wait, dd_a_rem]
def hdFn_2 : List He.DefD := [dd_refinit, dd_manyinit, dd__law_none_right, dd__law_one_right, dd__law_name_of, dd__law_made_right, dd__law_many_right, dd_law]
def hdFn : List He.DefD := hdFn_0 ++ (hdFn_1 ++ (hdFn_2))
def hdFa_0 : List He.Fa := [.glo "lapse", .glo "take", .free "min", .glo "play", .free "enumerate", .free "sum", .free "tuple", .glo "is_from", .free "isinstance", .free "int", .free "bool", .glo "is_event", .free "str", .free "len", .int "LAST_TIME" 10000, .int "LARGEST" 1000000, .glo "is_log", .free "all", .free "zip", .int "MOST_EVENTS" 30, .glo "need_log", .glo "need_life", .int "LONGEST_LIFE" 1000, .glo "need_moment", .int "LAST_MOMENT" 12000, .glo "refused_at", .glo "need_possible", .glo "need_asked", .glo "merged", .glo "lapsed_by"]
def hdFa_1 : List He.Fa := [.glo "balance_of", .glo "all_lapses", .glo "lapsed", .glo "balance", .glo "worst_moment", .glo "_law_deck", .glo "_law_pick", .glo "with_more", .glo "difference", .free "sorted", .free "set", .free "dict", .free "list", .glo "need_kind", .glo "after_more_earned", .glo "is_part", .glo "used_by", .glo "fits", .glo "is_choice", .glo "oldest_choice", .glo "lapses", .glo "fates", .glo "rescue", .glo "rescued", .free "max", .glo "need_regular", .glo "excess", .glo "regular_lapsed", .free "range", .int "MOST_NUMBER" 1000000000000000]
def hdFa_2 : List He.Fa := [.glo "first_lapse", .glo "first_of", .glo "best_range", .glo "need_seen", .int "MOST_SEEN" 10, .int "MOST_BALANCE" 1000000000, .glo "fit_life", .glo "put_together", .glo "together", .glo "saved_together", .glo "left", .glo "first_refused", .glo "is_possible", .glo "newest_choice", .glo "range_for", .glo "fit_amount", .glo "fit_earning", .glo "Account", .cls "Account", .noat "Account" "span", .noat "Account" "log", .noat "Account" "now", .noat "Account" "past", .mkr "Account", .meth "Account" "__len__", .meth "Account" "change", .meth "Account" "need_time", .meth "Account" "earn", .meth "Account" "spend", .meth "Account" "wait"]
def hdFa_3 : List He.Fa := [.meth "Account" "remaining", .glo "InvalidLog", .glo "InvalidLife", .glo "InvalidTime", .glo "InvalidAmount", .glo "InvalidIndex", .glo "InvalidChoice", .glo "InvalidSeen", .glo "InvalidNumber", .glo "NotEnough", .glo "NothingToUndo", .glo "Refused", .glo "TooMany", .glo "PointError", .exc "InvalidLog", .exc "InvalidLife", .exc "InvalidTime", .exc "InvalidAmount", .exc "InvalidIndex", .exc "InvalidChoice", .exc "InvalidSeen", .exc "InvalidNumber", .exc "NotEnough", .exc "NothingToUndo", .glo "_law_none_right", .glo "_law_one_right", .glo "_law_name_of", .free "ValueError", .glo "_law_made_right", .glo "_law_many_right"]
def hdFa_4 : List He.Fa := [.glo "law"]
def hdFa : List He.Fa := hdFa_0 ++ (hdFa_1 ++ (hdFa_2 ++ (hdFa_3 ++ (hdFa_4))))
def hdNo_0 : List Str := ["__name__", "PointError", "InvalidLog", "InvalidLife", "InvalidTime", "InvalidAmount", "InvalidIndex", "InvalidChoice", "InvalidSeen", "InvalidNumber", "NotEnough", "NothingToUndo", "Refused", "TooMany", "LAST_TIME", "LAST_MOMENT", "LONGEST_LIFE", "LARGEST", "MOST_EVENTS", "is_from", "is_event", "is_log", "need_log", "need_life", "need_moment", "lapse", "take", "play", "refused_at", "need_possible"]
def hdNo_1 : List Str := ["first_refused", "is_possible", "need_asked", "merged", "lapsed_by", "balance_of", "all_lapses", "balance", "lapsed", "left", "lapses", "worst_moment", "fates", "put_together", "together", "saved_together", "Account", "with_more", "need_kind", "difference", "after_more_earned", "is_part", "used_by", "fits", "is_choice", "oldest_choice", "newest_choice", "MOST_SEEN", "MOST_BALANCE", "need_seen"]
def hdNo_2 : List Str := ["first_of", "best_range", "fit_life", "range_for", "fit_amount", "fit_earning", "MOST_NUMBER", "need_regular", "excess", "regular_lapsed", "first_lapse", "rescue", "rescued", "_law_deck", "_law_pick", "_law_name_of", "_law_try", "_law_none_right", "_law_one_right", "_law_many_right", "_law_made_right"]
def hdNo : List Str := hdNo_0 ++ (hdNo_1 ++ (hdNo_2))
def dw_yearly : He5.DefA := ⟨fun K => He5.wf K (He.ga K "Account") "classmethod" "yearly", "yearly", "Account.yearly", defArgs (clsAt (topS 49) 2), defBody (clsAt (topS 49) 2), defScope (clsAt (topS 49) 2), [], []⟩
def hdFw : List He5.DefA := [dw_yearly]
abbrev hdR : PySem.W.OpenRow := PySem.W.OpenLaw.row PySem.Challenge.rw_lapsepoints_k19_whole_edges
abbrev hdTf : List He.Defn := [("best_range", none), ("fit_life", none), ("range_for", none), ("fit_amount", none), ("fit_earning", none)]
def hdEx (K : PySem.W.Frag) : Bool := exOk19 K && decide ((hdTf.map fun p => (He.cT K p).2).Nodup)
abbrev hdK : PySem.W.Hook := hookW 4 hdFa hdFn hdFw hdTf hdEx
def hdOb (s : PySem.W.SharedT) : AlW := obsW 4 hdFa hdFn hdFw hdTf hdEx (HandSHeadRun.getT s)
theorem hdOb_eq (s : PySem.W.SharedT) : hdOb s = hdK.obs s.abs := obsW_eq (HandSHeadRun.getT_eq s)
theorem hdRun (w : World) : HandSHeadRun.RunEq hdR (PySem.W.view hdR.prog [90]) hdK hdOb 20000 hdNo w := by
  intro os
  kernel_rfl
abbrev Lot := Int × Int × Int
abbrev eLot (l : Lot) : D := .tup [.int l.1, .int l.2.1, .int l.2.2]
/-- what is left when all points that are too old at a time have gone, and these -/
def lapseF (life time : Int) : List Lot → List Lot × List Lot
  | [] => ([], [])
  | l :: r => if l.1 + life ≤ time then ((lapseF life time r).1, (l.1 + life, l.2.1, l.2.2) :: (lapseF life time r).2) else (l :: r, [])
/-- points taken from the oldest lots on: what is left, what is taken from each -/
def takeF : List Lot → Int → List Lot × List (Int × Int)
  | [], _ => ([], [])
  | l :: r, n => if 0 < n then (if l.2.1 ≤ n then ((takeF r (n - l.2.1)).1, (l.2.2, l.2.1) :: (takeF r (n - l.2.1)).2) else ((l.1, l.2.1 - n, l.2.2) :: r, [(l.2.2, n)])) else (l :: r, [])
def total (ls : List Lot) : Int := (ls.map fun l => l.2.1).sum
def PosL (ls : List Lot) : Prop := ∀ l ∈ ls, 0 < l.2.1
theorem total_cons (l : Lot) (r : List Lot) : total (l :: r) = l.2.1 + total r := by unfold total; rw [List.map_cons, List.sum_cons]
theorem total_nil : total [] = 0 := rfl
theorem PosL.tail {l : Lot} {r : List Lot} (h : PosL (l :: r)) : PosL r := fun x hx => h x (List.mem_cons_of_mem _ hx)
theorem PosL.total {ls : List Lot} (h : PosL ls) : 0 ≤ total ls := by
  induction ls with
  | nil => exact Int.le_refl _
  | cons l r ih =>
    have h1 := ih h.tail
    have h2 := h l List.mem_cons_self
    rw [total_cons]
    omega
abbrev ePr (p : Int × Int) : D := .tup [.int p.1, .int p.2]
abbrev nLapse : List Str := ["lots", "lapsed", "life", "time", "earned", "amount", "index"]
def spLapse : DSp := fun ds O Φ _ => ∃ (a b : Addr) (ls gs : List Lot) (life time : Int), ds = [.obj a, .obj b, .int life, .int time] ∧ O = [(a, .lst (ls.map eLot)), (b, .lst (gs.map eLot))] ∧ ls.length + gs.length < 100000 ∧
  Φ .non [(a, .lst ((lapseF life time ls).1.map eLot)), (b, .lst ((gs ++ (lapseF life time ls).2).map eLot))]
theorem sh_lots (ls : List Lot) : SeqAt.shaped (.list (toPyL (ls.map eLot))) = true := shaped_map (f := eLot) fun x _ => ⟨rfl, Nat.le_of_ble_eq_true rfl⟩
theorem sc_lapse : FnScope nLapse ["lots", "lapsed", "life", "time"] (defScope (topS 26)) := ⟨rfl, rfl, rfl, by decide +kernel, rfl, by decide +kernel, by decide +kernel⟩
theorem ok_lapse {M : Mach} {f : Addr} {fd : FuncData} {k : Nat} (F : Fun M.K "lapse" "lapse" (topS 26) f fd) : FnOk M.P M.w M.K M.mg M.base (L2N.CX M.P M.w) (k + 1) f fd ["lots", "lapsed", "life", "time"] (liftSp M.K spLapse) := by
  refine fn_body (N := nLapse) (vn := nLapse) (gl := []) F sc_lapse (by decide +kernel) (fun ds O Φ Ψ h => ?_) fun X B ds O Φ Ψ bd h => ?_
  · obtain ⟨a, b, ls, gs, life, time, rfl, _⟩ := h
    rfl
  obtain ⟨a, b, ls, gs, life, time, rfl, rfl, hlen, q⟩ := h
  have C := bd.C
  refine wss_one (ws_while C (fun m G' O' => ∃ ls' gs' g4 g5 g6, m = ls'.length ∧ G' = [some (.obj a), some (.obj b), some (.int life), some (.int time), g4, g5, g6] ∧ O' = [(a, .lst (ls'.map eLot)), (b, .lst (gs'.map eLot))] ∧
    (lapseF life time ls').1 = (lapseF life time ls).1 ∧ gs' ++ (lapseF life time ls').2 = gs ++ (lapseF life time ls).2 ∧ ls'.length + gs'.length < 100000) ⟨_, ls, gs, none, none, none, rfl, rfl, rfl, rfl, rfl, hlen⟩ ?_)
  rintro m G' O' ⟨ls', gs', g4, g5, g6, rfl, rfl, rfl, e1, e2, hl⟩
  refine WW.t (ww_and (wt_pv (pt_neNil C (by exists "ev") (by exists "il") (sh_lots ls')) ?_))
  cases ls' with
  | nil =>
    refine if_f rfl (if_f rfl ?_)
    have h1 : (lapseF life time ls).1 = [] := e1.symm
    have h2 : gs ++ (lapseF life time ls).2 = gs' := by rw [← e2]; exact List.append_nil _
    rw [h1, h2] at q
    exact q
  | cons l r =>
    refine if_t rfl (ww_and1 (wt_pv (by exists "et") ?_))
    have hl' : r.length + 1 + gs'.length < 100000 := hl
    refine if_d (fun hq => ?_) (fun hq => ?_)
    · refine wss_cons (ws_asg (vs := fun _ => True) (we_popAt (by exists "ev") (by exists "mem") (we_pv pv_int ⟨0, _, eLot l, _, rfl, (by exists "mem"), rfl, by decide, (by exists "os"), ?_⟩)))
      exists "t3"
      exists "nx"
      refine wss_one (ws_expr (we_append (by exists "ev") (by exists "mem") (we_pv (by exists "ev") ⟨_, _, (by exists "mem"), by rw [List.length_map]; omega, (by exists "os"), ?_⟩)))
      have s1 : (lapseF life time (l :: r)).1 = (lapseF life time r).1 := by rw [lapseF, if_pos hq]
      have s2 : (lapseF life time (l :: r)).2 = (l.1 + life, l.2.1, l.2.2) :: (lapseF life time r).2 := by rw [lapseF, if_pos hq]
      refine ⟨r.length, Nat.lt_succ_self _, r, gs' ++ [(l.1 + life, l.2.1, l.2.2)], _, _, _, rfl, rfl, ?_, by rw [← e1, s1], by rw [← e2, s2, List.append_assoc]; rfl, by rw [List.length_append, List.length_singleton]; omega⟩
      rw [List.map_append]
      rfl
    · have s1 : lapseF life time (l :: r) = (l :: r, []) := by rw [lapseF, if_neg hq]
      rw [s1] at e1 e2
      have h2 : gs ++ (lapseF life time ls).2 = gs' := by rw [← e2]; exact List.append_nil _
      rw [← e1, h2] at q
      exact q
abbrev nTake : List Str := ["lots", "amount", "taken", "part"]
def spTake : DSp := fun ds O Φ _ => ∃ (a : Addr) (ls : List Lot) (n : Int), ds = [.obj a, .int n] ∧ O = [(a, .lst (ls.map eLot))] ∧ PosL ls ∧ 0 ≤ n ∧ n ≤ total ls ∧ ls.length < 1000 ∧
  ∀ p, Φ (.obj p) [(p, .lst ((takeF ls n).2.map ePr)), (a, .lst ((takeF ls n).1.map eLot))]
theorem sc_take : FnScope nTake ["lots", "amount"] (defScope (topS 27)) := ⟨rfl, rfl, rfl, by decide +kernel, rfl, by decide +kernel, by decide +kernel⟩
theorem ok_take {M : Mach} {f : Addr} {fd : FuncData} {k : Nat} (F : Fun M.K "take" "take" (topS 27) f fd) (hmin : M.mg "min" = none) : FnOk M.P M.w M.K M.mg M.base (L2N.CX M.P M.w) (k + 1) f fd ["lots", "amount"] (liftSp M.K spTake) := by
  refine fn_body (N := nTake) (vn := nTake) (gl := ["min"]) F sc_take (by decide +kernel) (fun ds O Φ Ψ h => ?_) fun X B ds O Φ Ψ bd h => ?_
  · obtain ⟨a, ls, n, rfl, _⟩ := h
    rfl
  obtain ⟨a, ls, n, rfl, rfl, pos, h0, hn, hlen, q⟩ := h
  have C := bd.C
  change WSs _ _ [some _, some _, none, none] _ _ _
  refine wss_cons (ws_set C (by exists "sa") (by decide +kernel) (we_own (wn_pv (pn_lst pa_nilv) fun p => ?_)))
  exists "nx"
  refine wss_cons (ws_while C (fun m G' O' => ∃ n' ls' tk g3, m = n'.toNat ∧ G' = [some (.obj a), some (.int n'), some (.obj p), g3] ∧ O' = [(p, .lst (tk.map ePr)), (a, .lst (ls'.map eLot))] ∧ PosL ls' ∧ 0 ≤ n' ∧ n' ≤ total ls' ∧
    (takeF ls' n').1 = (takeF ls n).1 ∧ tk ++ (takeF ls' n').2 = (takeF ls n).2 ∧ (0 < n' → ls'.length + tk.length < 10000)) ⟨_, n, ls, [], none, rfl, rfl, rfl, pos, h0, hn, rfl, rfl, fun _ => by show ls.length + 0 < 10000; omega⟩ ?_)
  rintro m G' O' ⟨n', ls', tk, g3, rfl, rfl, rfl, pos', h0', hn', e1, e2, hl⟩
  refine wt_pv (by exists "et") (if_d (fun hq => ?_) (fun hq => ?_))
  · cases ls' with
    | nil => rw [total_nil] at hn'; omega
    | cons l r =>
      have pl := pos' l List.mem_cons_self
      have hl' : r.length + 1 + tk.length < 10000 := hl hq
      rw [total_cons] at hn'
      refine wss_cons (ws_set C (by exists "sa") (by decide +kernel) (we_pv (by exists "ev") ?_))
      exists "nx"
      refine wss_cons (ws_expr (we_append (by exists "ev") (by exists "mem") (we_pv (by exists "ev") ⟨_, _, (by exists "mem"), by rw [List.length_map]; omega, (by exists "os"), ?_⟩)))
      exists "nx"
      refine wss_cons (ws_augI C ip_sub (by exists "va") (by exists "sa") (by decide +kernel) (we_pv (by exists "ev") ⟨_, rfl, ?_⟩))
      exists "nx"
      refine wss_one (ws_if (wt_pv (by exists "et") (if_d (fun hp => ?_) (fun hp => ?_))))
      · -- all of it
        have hle : l.2.1 ≤ n' := by split at hp <;> omega
        have hm : (if l.2.1 < n' then l.2.1 else n') = l.2.1 := by split <;> omega
        refine wss_one (ws_expr (we_popAt (by exists "ev") (by exists "mem") (we_pv pv_int ⟨0, _, _, _, rfl, (by exists "mem"), rfl, by decide, (by exists "os"), ?_⟩)))
        exists "nx"
        rw [hm]
        have s1 : (takeF (l :: r) n').1 = (takeF r (n' - l.2.1)).1 := by rw [takeF, if_pos hq, if_pos hle]
        have s2 : (takeF (l :: r) n').2 = (l.2.2, l.2.1) :: (takeF r (n' - l.2.1)).2 := by rw [takeF, if_pos hq, if_pos hle]
        refine ⟨_, ?_, n' - l.2.1, r, tk ++ [(l.2.2, l.2.1)], _, rfl, rfl, ?_, pos'.tail, by omega, by omega, by rw [← e1, s1], by rw [← e2, s2, List.append_assoc]; rfl, fun _ => by rw [List.length_append, List.length_singleton]; omega⟩
        · omega
        · rw [List.map_append]; rfl
      · have hlt : n' < l.2.1 := by split at hp <;> omega
        have hm : (if l.2.1 < n' then l.2.1 else n') = n' := by split <;> omega
        refine wss_one (ws_asg (vs := fun _ => True) (we_pv (by exists "ev") (wg_sub (we_pv (by exists "ev") ⟨_, rfl, we_pv pv_int ⟨0, 0, _, _, rfl, (by exists "mem"), ix0, (by exists "os"), ?_⟩⟩))))
        exists "nx"
        rw [hm]
        have s0 : takeF (l :: r) n' = ((l.1, l.2.1 - n', l.2.2) :: r, [(l.2.2, n')]) := by rw [takeF, if_pos hq, if_neg (by omega)]
        have s1 : takeF ((l.1, l.2.1 - n', l.2.2) :: r) (n' - n') = ((l.1, l.2.1 - n', l.2.2) :: r, []) := by rw [takeF, if_neg (by omega)]
        refine ⟨_, ?_, n' - n', (l.1, l.2.1 - n', l.2.2) :: r, tk ++ [(l.2.2, n')], _, rfl, rfl, ?_, fun x hx => ?_, by omega, ?_, by rw [← e1, s0, s1], by rw [← e2, s0, s1, List.append_assoc]; rfl, fun hz => absurd hz (by omega)⟩
        · omega
        · rw [List.map_append]; rfl
        · rcases List.mem_cons.mp hx with e | hx
          · rw [e]; show 0 < l.2.1 - n'; omega
          · exact pos' x (List.mem_cons_of_mem _ hx)
        · rw [total_cons]
          have := pos'.tail.total
          show n' - n' ≤ (l.2.1 - n') + total r
          omega
  · have hz : n' = 0 := by omega
    subst hz
    have s0 : takeF ls' 0 = (ls', []) := by
      cases ls' with
      | nil => rfl
      | cons l r => rw [takeF, if_neg (by omega)]
    rw [s0] at e1 e2
    refine wss_one (ws_ret (we_pv (by exists "ev") ?_))
    exists "nx"
    have z := q p
    rw [← e1, ← e2, List.append_nil] at z
    exact z
/-- earned or spent, time, amount -/
abbrev Ev := Bool × Int × Int
abbrev kW (b : Bool) : Str := if b then "earn" else "spend"
abbrev eEv (e : Ev) : D := .tup [.str (kW e.1), .int e.2.1, .int e.2.2]
abbrev Tk := List (Int × Int)
abbrev eTk (t : Tk) : D := .tup (t.map ePr)
abbrev Pl := List Lot × List Lot × List Tk × Option Nat
def runF (life til : Int) : Nat → List Ev → List Lot → List Lot → List Tk → Pl
  | _, [], ls, gs, ts => (ls, gs, ts, none)
  | i, e :: r, ls, gs, ts => if e.2.1 ≤ til then
      (if e.1 = true then runF life til (i + 1) r ((lapseF life e.2.1 ls).1 ++ [(e.2.1, e.2.2, (i : Int))]) (gs ++ (lapseF life e.2.1 ls).2) ts
       else if total (lapseF life e.2.1 ls).1 < e.2.2 then ((lapseF life e.2.1 ls).1, gs ++ (lapseF life e.2.1 ls).2, ts, some i)
       else runF life til (i + 1) r (takeF (lapseF life e.2.1 ls).1 e.2.2).1 (gs ++ (lapseF life e.2.1 ls).2) (ts ++ [(takeF (lapseF life e.2.1 ls).1 e.2.2).2]))
    else runF life til (i + 1) r ls gs ts
def endF (life til : Int) (r : Pl) : Pl := match r.2.2.2 with
  | some _ => r
  | none => ((lapseF life til r.1).1, r.2.1 ++ (lapseF life til r.1).2, r.2.2.1, none)
def playF (life til : Int) (log : List Ev) : Pl := endF life til (runF life til 0 log [] [] [])
def eOpt : Option Nat → D
  | none => .non
  | some i => .int (i : Int)
abbrev ePl (r : Pl) : D := .tup [.lst (r.1.map eLot), .lst (r.2.1.map eLot), .lst (r.2.2.1.map eTk), eOpt r.2.2.2]
def PosEv (log : List Ev) : Prop := ∀ e ∈ log, 0 < e.2.2
theorem lapseF_len (life t : Int) (ls : List Lot) : (lapseF life t ls).1.length + (lapseF life t ls).2.length = ls.length := by
  induction ls with
  | nil => rfl
  | cons l r ih =>
    rw [lapseF]
    split
    · show (lapseF life t r).1.length + ((lapseF life t r).2.length + 1) = r.length + 1
      omega
    · rfl
theorem lapseF_mem (life t : Int) (ls : List Lot) : ∀ x ∈ (lapseF life t ls).1, x ∈ ls := by
  induction ls with
  | nil => exact fun x h => h
  | cons l r ih =>
    rw [lapseF]
    split
    · exact fun x h => List.mem_cons_of_mem _ (ih x h)
    · exact fun x h => h
theorem takeF_len (ls : List Lot) : ∀ n, (takeF ls n).1.length ≤ ls.length := by
  induction ls with
  | nil => exact fun n => Nat.le_refl _
  | cons l r ih =>
    intro n
    rw [takeF]
    have := ih (n - l.2.1)
    split
    · split
      · exact Nat.le_succ_of_le this
      · exact Nat.le_refl _
    · exact Nat.le_refl _
theorem takeF_pos {ls : List Lot} (h : PosL ls) : ∀ n, PosL (takeF ls n).1 := by
  induction ls with
  | nil => exact fun n => h
  | cons l r ih =>
    intro n
    rw [takeF]
    split
    · split
      · exact ih h.tail _
      · intro x hx
        rcases List.mem_cons.mp hx with e | hx
        · rw [e]
          show 0 < l.2.1 - n
          omega
        · exact h.tail x hx
    · exact h
abbrev nPlay : List Str := ["log", "life", "until", "lots", "lapsed", "taken", "index", "kind", "time", "amount", "lot"]
def spPlay : DSp := fun ds O Φ _ => ∃ (log : List Ev) (life til : Int), ds = [.tup (log.map eEv), .int life, .int til] ∧ O = [] ∧ PosEv log ∧ log.length ≤ 100 ∧ Φ (ePl (playF life til log)) []
theorem sc_play : FnScope nPlay ["log", "life", "until"] (defScope (topS 28)) := ⟨rfl, rfl, rfl, by decide +kernel, rfl, by decide +kernel, by decide +kernel⟩
theorem ok_play {M : Mach} {f : Addr} {fd : FuncData} {k : Nat} (F : Fun M.K "play" "play" (topS 28) f fd) (hen : M.mg "enumerate" = none) (hsum : M.mg "sum" = none) (htu : M.mg "tuple" = none) (gl : GFn M "lapse" k spLapse) (gt : GFn M "take" k spTake) :
    FnOk M.P M.w M.K M.mg M.base (L2N.CX M.P M.w) (k + 1) f fd ["log", "life", "until"] (liftSp M.K spPlay) := by
  refine fn_body (N := nPlay) (vn := ["log", "life", "until", "lots", "lapsed", "taken", "index", "kind", "time", "amount"]) (gl := ["enumerate", "sum", "tuple", "lapse", "take"]) F sc_play (by decide +kernel) (fun ds O Φ Ψ h => ?_) fun X B ds O Φ Ψ bd h => ?_
  · obtain ⟨_, _, _, rfl, _⟩ := h
    rfl
  obtain ⟨log, life, til, rfl, rfl, pos, hlen, q⟩ := h
  have C := bd.C
  change WSs _ _ [some _, some _, some _, none, none, none, none, none, none, none, none] _ _ _
  refine wss_cons ?_
  exists "p3"
  refine wa_cons (we_own (wn_pv (pn_lst pa_nilv) fun a => wa_cons (we_own (wn_pv (pn_lst pa_nilv) fun b => wa_cons (we_own (wn_pv (pn_lst pa_nilv) fun c => wa_nil ⟨_, _, _, rfl, ?_⟩))))))
  exists "nx"
  refine wss_perm (O' := [(a, .lst []), (b, .lst []), (c, .lst [])]) (List.reverse_perm [_, _, _]) ?_
  refine wss_cons (ws_for C (wi_v (wiv_enumT C hen (by decide +kernel) (by exists "ev")) ⟨fun i G' O' => ∃ ls gs ts g6 g7 g8 g9 g10, G' = [some (.tup (log.map eEv)), some (.int life), some (.int til), some (.obj a), some (.obj b), some (.obj c), g6, g7, g8, g9, g10] ∧
    O' = [(a, .lst (ls.map eLot)), (b, .lst (gs.map eLot)), (c, .lst (ts.map eTk))] ∧ runF life til i (log.drop i) ls gs ts = runF life til 0 log [] [] [] ∧ PosL ls ∧ ls.length + gs.length ≤ i ∧ ts.length ≤ i ∧ i ≤ 100, ⟨[], [], [], _, _, _, _, _, rfl, rfl, rfl, fun _ h => (List.not_mem_nil h).elim, Nat.le_refl _, Nat.le_refl _, Nat.zero_le _⟩,
    fun _ _ _ _ _ p hp => (List.not_mem_nil hp).elim, ?_, ?_⟩))
  · rintro i d G' O' hd ⟨ls, gs, ts, g6, g7, g8, g9, g10, rfl, rfl, e1, ps, h1, h2, _⟩
    obtain ⟨⟨kd, t, n⟩, hx, rfl, hdr⟩ := enum_at hd
    have hi := (List.getElem?_eq_some_iff.mp hx).1
    have hn : 0 < n := pos _ (List.mem_of_getElem? hx)
    rw [hdr] at e1
    refine wg_tup C (wgs_cons (wg_name C (by exists "sa") (by decide +kernel) trivial (wgs_cons ?_)))
    exists "t3"
    refine wgs_nil (wss_one (ws_if (wt_pv (by exists "et") (if_d (fun hq => ?_) (fun hq => ?_)))))
    · rw [runF, if_pos hq] at e1
      dsimp only at e1
      have hL := lapseF_len life t ls
      have hP : PosL (lapseF life t ls).1 := fun x hx => ps x (lapseF_mem life t ls x hx)
      generalize hLF : lapseF life t ls = LF at e1 hL hP
      obtain ⟨l1, g1⟩ := LF
      dsimp only at e1 hL hP
      refine wss_cons (ws_expr (we_call C gl bd.r takes_no (by decide +kernel) (wa_pv (by exists "ea") ⟨[(a, _), (b, _)], [(c, _)], List.Perm.refl _, a, b, ls, gs, life, t, rfl, rfl, by omega, ?_⟩)))
      rw [hLF]
      exists "nx"
      cases kd with
      | true =>
        rw [if_pos rfl] at e1
        refine wss_one (ws_ifv (c := true) (by exists "et") (fun _ => ?_) (fun h => by cases h))
        refine wss_one (ws_expr (we_append (by exists "ev") (by exists "mem") (we_pv (by exists "ev") ⟨_, _, (by exists "mem"), by rw [List.length_map]; omega, (by exists "os"), ?_⟩)))
        refine ⟨l1 ++ [(t, n, (i : Int))], gs ++ g1, ts, _, _, _, _, _, rfl, ?_, e1, ?_, ?_, by omega, by omega⟩
        · simp only [List.map_append, List.map_cons, List.map_nil]
        · intro x hx
          rcases List.mem_append.mp hx with hx | hx
          · exact hP x hx
          · rw [List.mem_singleton.mp hx]; exact hn
        · rw [List.length_append, List.length_append, List.length_singleton]; omega
      | false =>
        rw [if_neg (by decide)] at e1
        refine wss_one (ws_ifv (c := false) (by exists "et") (fun h => by cases h) (fun _ => ?_))
        refine wss_one (ws_if (wt_pv (pt_lt (pv_sumLcA (own := [("lot", 10)]) (f := fun l : Lot => l.2.1) C hsum (by decide +kernel) (by decide +kernel) (wiv_own (by exists "ev") (by exists "mem")) (fun p hp => by rw [List.mem_singleton.mp hp]; exists "mem") (by omega) fun l hl => ⟨fun X' B' b => ?_⟩) (by exists "ev")) (if_d (fun hr => ?_) (fun hr => ?_))))
        · have C' := b.C
          exists "wp"
          refine wg_name C' (by exists "sa") (by decide +kernel) (by decide) ⟨rfl, fun X2 b2 => wf_nil ⟨rfl, rfl⟩, fun _ X3 b3 => ?_⟩
          have C3 := b3.C
          exists "ev"
        · have hr : total l1 < n := hr
          rw [if_pos hr] at e1
          refine wss_freeze (p := a) (by exists "od") (by exists "fz") (wss_freeze (p := b) (by exists "od") (by exists "fz") (wss_freeze (p := c) (by exists "od") (by exists "fz") ?_))
          refine wss_one (ws_ret (we_pv (by exists "ev") ?_))
          exists "nx"
          rw [playF, ← e1] at q
          exact q
        · have hr : ¬ total l1 < n := hr
          rw [if_neg hr] at e1
          have hl := takeF_len l1 n
          have hp' := takeF_pos hP n
          refine wss_one (ws_expr (we_less (we_append (by exists "ev") (by exists "mem") (we_tuple C htu (by decide +kernel) (we_call C gt bd.r takes_no (by decide +kernel) (wa_pv (by exists "ea") ⟨[(a, _)], [(b, _), (c, _)], List.Perm.refl _, a, l1, n, rfl, rfl, hP, by omega, Int.not_lt.mp hr, by omega, fun p => ?_⟩))))))
          exists "nx"
          refine ⟨_, Items.own (by exists "mem"), _, _, (by exists "mem"), by rw [List.length_map]; omega, (by exists "os"), [(a, _), (b, _), (c, _)], List.sublist_cons_self _ _, (takeF l1 n).1, gs ++ g1, ts ++ [(takeF l1 n).2], _, _, _, _, _, rfl, ?_, e1, hp', ?_, ?_, by omega⟩
          · simp only [List.map_append, List.map_cons, List.map_nil]
          · rw [List.length_append]; omega
          · rw [List.length_append, List.length_singleton]; omega
    · rw [runF, if_neg hq] at e1
      refine wss_nil ⟨ls, gs, ts, _, _, _, _, _, rfl, rfl, e1, ps, by omega, by omega, by omega⟩
  · rintro G' O' ⟨ls, gs, ts, g6, g7, g8, g9, g10, rfl, rfl, e1, ps, h1, h2, _⟩
    have hz : log.drop (enumD (log.map eEv)).length = [] := by rw [enumD_length, List.length_map, List.drop_length]
    rw [hz, runF] at e1
    have hL := lapseF_len life til ls
    have hQ : playF life til log = ((lapseF life til ls).1, gs ++ (lapseF life til ls).2, ts, none) := by rw [playF, ← e1]; rfl
    rw [enumD_length, List.length_map] at h1
    refine wss_cons (ws_expr (we_call C gl bd.r takes_no (by decide +kernel) (wa_pv (by exists "ea") ⟨[(a, _), (b, _)], [(c, _)], List.Perm.refl _, a, b, ls, gs, life, til, rfl, rfl, by omega, ?_⟩)))
    exists "nx"
    refine wss_freeze (p := a) (by exists "od") (by exists "fz") (wss_freeze (p := b) (by exists "od") (by exists "fz") (wss_freeze (p := c) (by exists "od") (by exists "fz") ?_))
    refine wss_one (ws_ret (we_pv (by exists "ev") ?_))
    exists "nx"
    rw [hQ] at q
    exact q
def isFromD : D → Int → Int → Bool
  | .int i, lo, hi => decide (lo ≤ i) && decide (i ≤ hi)
  | _, _, _ => false
abbrev nIsFrom : List Str := ["value", "low", "high"]
def spIsFrom : DSp := fun ds O Φ _ => ∃ (d : D) (t : String) (lo hi : Int), ds = [d, .int lo, .int hi] ∧ TyD O d t ∧ Φ (.bl (isFromD d lo hi)) O
theorem sc_isfrom : FnScope nIsFrom nIsFrom (defScope (topS 20)) := ⟨rfl, rfl, rfl, by decide +kernel, rfl, by decide +kernel, by decide +kernel⟩
theorem ok_isfrom {M : Mach} {f : Addr} {fd : FuncData} {k : Nat} (F : Fun M.K "is_from" "is_from" (topS 20) f fd) (h1 : M.mg "isinstance" = none) (h2 : M.mg "int" = none) (h3 : M.mg "bool" = none) :
    FnOk M.P M.w M.K M.mg M.base (L2N.CX M.P M.w) (k + 1) f fd nIsFrom (liftSp M.K spIsFrom) := by
  refine fn_body (N := nIsFrom) (vn := nIsFrom) (gl := ["isinstance", "int", "bool"]) F sc_isfrom (by decide +kernel) (fun ds O Φ Ψ h => ?_) fun X B ds O Φ Ψ bd h => ?_
  · obtain ⟨_, _, _, _, rfl, _⟩ := h
    rfl
  obtain ⟨d, t, lo, hi, rfl, ty, q⟩ := h
  have C := bd.C
  change WSs _ _ [some _, some _, some _] _ _ _
  refine wss_one (ws_ret (we_pv (d := .bl (isFromD d lo hi)) ?_ q))
  cases ty with
  | int i => exact (pv_and (ca := true) (cb := decide (lo ≤ i) && decide (i ≤ hi)) (by exists "ev") fun _ => PEv.to (pv_and (ca := true) (cb := decide (lo ≤ i) && decide (i ≤ hi)) (by exact PEv.to (pv_not (ca := false) (by exists "ev")) rfl) fun _ => pv_one (by exists "ev")) rfl).to rfl
  | bl b => exact (pv_and (ca := true) (cb := false) (by exists "ev") fun _ => PEv.to (pv_and (ca := false) (cb := false) (by exact PEv.to (pv_not (ca := true) (by exists "ev")) rfl) fun h => by cases h) rfl).to rfl
  | _ => exact (pv_and (ca := false) (cb := false) (by exists "ev") fun h => by cases h).to rfl
def PosE (e : Ev) : Prop := 0 ≤ e.2.1 ∧ e.2.1 ≤ 10000 ∧ 1 ≤ e.2.2 ∧ e.2.2 ≤ 1000000
def OrdEv (log : List Ev) : Prop := ∀ p ∈ log.zip (log.drop 1), p.1.2.1 ≤ p.2.2.1
/-- a log that is right -/
structure OkLog (log : List Ev) : Prop where
  ev : ∀ e ∈ log, PosE e
  ord : OrdEv log
  len : log.length ≤ 30
def spIsEvent : DSp := fun ds O Φ _ => ∃ e : Ev, ds = [eEv e] ∧ PosE e ∧ Φ (.bl true) O
theorem sc_isevent : FnScope ["value"] ["value"] (defScope (topS 21)) := ⟨rfl, rfl, rfl, by decide +kernel, rfl, by decide +kernel, by decide +kernel⟩
theorem ok_isevent {M : Mach} {f : Addr} {fd : FuncData} {k : Nat} (F : Fun M.K "is_event" "is_event" (topS 21) f fd) (h1 : M.mg "isinstance" = none) (h2 : M.mg "tuple" = none) (h3 : M.mg "str" = none) (h4 : M.mg "len" = none) (h5 : ∃ t, M.mg "LAST_TIME" = some (.int 10000 t)) (h6 : ∃ t, M.mg "LARGEST" = some (.int 1000000 t)) (gi : GFn M "is_from" k spIsFrom) :
    FnOk M.P M.w M.K M.mg M.base (L2N.CX M.P M.w) (k + 1) f fd ["value"] (liftSp M.K spIsEvent) := by
  refine fn_body (N := ["value"]) (vn := ["value"]) (gl := ["isinstance", "tuple", "str", "len", "LAST_TIME", "LARGEST", "is_from"]) F sc_isevent (by decide +kernel) (fun ds O Φ Ψ h => ?_) fun X B ds O Φ Ψ bd h => ?_
  · obtain ⟨_, rfl, _⟩ := h
    rfl
  obtain ⟨⟨kd, t, n⟩, rfl, ⟨p1, p2, p3, p4⟩, q⟩ := h
  have C := bd.C
  change WSs _ _ [some _] _ _ _
  refine wss_cons (ws_if (wt_pv (PWv.t (pwv_or (by exists "et") fun _ => pwv_or (by exists "et") fun _ => pwv_or1 (by exists "et"))) (if_f (by rfl) ?_)))
  refine wss_nil ?_
  exists "nx"
  refine wss_one (ws_ret (we_pv (d := .bl true) ?_ q))
  refine PEv.to (pv_and (ca := true) (cb := true) ?_ fun _ => PEv.to (pv_and (ca := true) (cb := true) ?_ fun _ => pv_one ?_) rfl) rfl
  · exact (pv_in (by exists "ev") (by exists "ev") .tup rfl rfl).to (by cases kd <;> rfl)
  · exact (pv_call C gi bd.r (by decide +kernel) (by exists "ea") fun Φ Ψ z => ⟨_, _, _, _, rfl, .int _, z⟩).to (by show D.bl (decide (0 ≤ t) && decide (t ≤ 10000)) = _; rw [decide_eq_true p1, decide_eq_true p2]; rfl)
  · exact (pv_call C gi bd.r (by decide +kernel) (by exists "ea") fun Φ Ψ z => ⟨_, _, _, _, rfl, .int _, z⟩).to (by show D.bl (decide (1 ≤ n) && decide (n ≤ 1000000)) = _; rw [decide_eq_true p3, decide_eq_true p4]; rfl)
abbrev nIsLog : List Str := ["value", "event", "one", "other"]
def spIsLog : DSp := fun ds O Φ _ => ∃ log : List Ev, ds = [.tup (log.map eEv)] ∧ OkLog log ∧ Φ (.bl true) O
theorem sc_islog : FnScope nIsLog ["value"] (defScope (topS 22)) := ⟨rfl, rfl, rfl, by decide +kernel, rfl, by decide +kernel, by decide +kernel⟩
theorem ok_islog {M : Mach} {f : Addr} {fd : FuncData} {k : Nat} (F : Fun M.K "is_log" "is_log" (topS 22) f fd) (h1 : M.mg "isinstance" = none) (h2 : M.mg "tuple" = none) (h3 : M.mg "all" = none) (h4 : M.mg "len" = none) (h5 : M.mg "zip" = none) (h6 : ∃ t, M.mg "MOST_EVENTS" = some (.int 30 t)) (gi : GFn M "is_event" k spIsEvent) :
    FnOk M.P M.w M.K M.mg M.base (L2N.CX M.P M.w) (k + 1) f fd ["value"] (liftSp M.K spIsLog) := by
  refine fn_body (N := nIsLog) (vn := ["value"]) (gl := ["isinstance", "tuple", "all", "len", "MOST_EVENTS", "zip"]) F sc_islog (by decide +kernel) (fun ds O Φ Ψ h => ?_) fun X B ds O Φ Ψ bd h => ?_
  · obtain ⟨_, rfl, _⟩ := h
    rfl
  obtain ⟨log, rfl, ok, q⟩ := h
  have C := bd.C
  have hlen := ok.len
  change WSs _ _ [some _, none, none, none] _ _ _
  refine wss_cons (ws_if (wt_pv (PWv.t (pwv_or (ca := false) (PTv.to (pt_notv (ca := true) (pt_ofv (by exists "ev"))) rfl) fun _ => pwv_or (ca := false) (PTv.to (pt_gt (by exists "ev") (by exists "ev")) (decide_eq_false (by rw [List.length_map]; omega))) fun _ => pwv_or1 (ca := false) (PTv.to (pt_notv (ca := true) (pt_ofv (PEv.to (pv_allLcA (own := [("event", 1)]) (f := fun _ => true) C h3 (by decide +kernel) (by decide +kernel) (wiv_tup (by exists "ev")) (fun p hp => (List.not_mem_nil hp).elim) (by omega) fun e he => ⟨fun X' B' b => ?_⟩) ?_))) rfl))) (if_f rfl ?_)))
  · have C' := b.C
    exists "wp"
    refine wg_name C' (by exists "sa") (by decide +kernel) (by decide) ⟨rfl, fun X2 b2 => wf_nil ⟨rfl, rfl⟩, fun _ X3 b3 => ?_⟩
    have C3 := b3.C
    exact pv_call C3 gi (b3.A ▸ bd.r) (by decide +kernel) (by exists "ea") fun Φ Ψ z => ⟨e, rfl, ok.ev e he, z⟩
  · rw [List.all_eq_true.mpr fun _ _ => rfl]
  · refine wss_nil ?_
    exists "nx"
    refine wss_one (ws_ret (we_pv (d := .bl true) ?_ q))
    have hz : zipD (log.map eEv) (cutD (log.map eEv) (some ((1 : Nat) : Int)) none) = (log.zip (log.drop 1)).map fun p => .tup [eEv p.1, eEv p.2] := by
      rw [cut_from, ← List.map_drop, zipD_map]
    refine PEv.to (pv_allLcA (own := [("one", 2), ("other", 3)]) (xs := log.zip (log.drop 1)) (enc := fun p => .tup [eEv p.1, eEv p.2]) (f := fun p => decide (p.1.2.1 ≤ p.2.2.1)) C h3 (by decide +kernel) (by decide +kernel) (hz ▸ wiv_zip C h5 (by decide +kernel) (by exists "ev") (pv_sliceT (by exists "ev") (.some pv_int) .none) (.inl ⟨rfl, rfl⟩)) (fun p hp => (List.not_mem_nil hp).elim) (by rw [List.length_zip]; omega) fun e he => ⟨fun X' B' b => ?_⟩) ?_
    · have C' := b.C
      exists "wp"
      refine wg_tup C' (wgs_cons (wg_name C' (by exists "sa") (by decide +kernel) (by decide) (wgs_cons (wg_name C' (by exists "sa") (by decide +kernel) (by decide) (wgs_nil ⟨rfl, fun X2 b2 => wf_nil ⟨rfl, rfl⟩, fun _ X3 b3 => ?_⟩)))))
      have C3 := b3.C
      exact pv_le (by exists "ev") (by exists "ev")
    · rw [List.all_eq_true.mpr fun p hp => decide_eq_true (ok.ord p hp)]
def spNeedLog : DSp := fun ds O Φ _ => ∃ log : List Ev, ds = [.tup (log.map eEv)] ∧ OkLog log ∧ Φ .non O
theorem sc_needlog : FnScope ["log"] ["log"] (defScope (topS 23)) := ⟨rfl, rfl, rfl, by decide +kernel, rfl, by decide +kernel, by decide +kernel⟩
theorem ok_needlog {M : Mach} {f : Addr} {fd : FuncData} {k : Nat} (F : Fun M.K "need_log" "need_log" (topS 23) f fd) (g : GFn M "is_log" k spIsLog) :
    FnOk M.P M.w M.K M.mg M.base (L2N.CX M.P M.w) (k + 1) f fd ["log"] (liftSp M.K spNeedLog) := by
  refine fn_body (N := ["log"]) (vn := ["log"]) (gl := ["is_log"]) F sc_needlog (by decide +kernel) (fun ds O Φ Ψ h => ?_) fun X B ds O Φ Ψ bd h => ?_
  · obtain ⟨_, rfl, _⟩ := h
    rfl
  obtain ⟨log, rfl, ok, q⟩ := h
  have C := bd.C
  change WSs _ _ [some _] _ _ _
  exact wss_one (ws_ifv (c := false) (PTv.to (pt_notv (ca := true) (pt_ofv (pv_call C g bd.r (by decide +kernel) (by exists "ea") fun Φ Ψ z => ⟨log, rfl, ok, z⟩))) rfl) (fun h => by cases h) fun _ => wss_nil q)
def spNeedLife : DSp := fun ds O Φ _ => ∃ life : Int, ds = [.int life] ∧ 1 ≤ life ∧ life ≤ 1000 ∧ Φ .non O
theorem sc_needlife : FnScope ["life"] ["life"] (defScope (topS 24)) := ⟨rfl, rfl, rfl, by decide +kernel, rfl, by decide +kernel, by decide +kernel⟩
theorem ok_needlife {M : Mach} {f : Addr} {fd : FuncData} {k : Nat} (F : Fun M.K "need_life" "need_life" (topS 24) f fd) (g : GFn M "is_from" k spIsFrom) (h1 : ∃ t, M.mg "LONGEST_LIFE" = some (.int 1000 t)) :
    FnOk M.P M.w M.K M.mg M.base (L2N.CX M.P M.w) (k + 1) f fd ["life"] (liftSp M.K spNeedLife) := by
  refine fn_body (N := ["life"]) (vn := ["life"]) (gl := ["is_from", "LONGEST_LIFE"]) F sc_needlife (by decide +kernel) (fun ds O Φ Ψ h => ?_) fun X B ds O Φ Ψ bd h => ?_
  · obtain ⟨_, rfl, _⟩ := h
    rfl
  obtain ⟨life, rfl, l1, l2, q⟩ := h
  have C := bd.C
  change WSs _ _ [some _] _ _ _
  refine wss_one (ws_ifv (c := false) (PTv.to (pt_notv (ca := true) (pt_ofv (PEv.to (pv_call C g bd.r (by decide +kernel) (by exists "ea") fun Φ Ψ z => ⟨_, _, _, _, rfl, .int _, z⟩) ?_))) rfl) (fun h => by cases h) fun _ => wss_nil q)
  show D.bl (decide (1 ≤ life) && decide (life ≤ 1000)) = _
  rw [decide_eq_true l1, decide_eq_true l2] <;> rfl
def spNeedMoment : DSp := fun ds O Φ _ => ∃ t : Int, ds = [.int t] ∧ 0 ≤ t ∧ t ≤ 12000 ∧ Φ .non O
theorem sc_needmoment : FnScope ["time"] ["time"] (defScope (topS 25)) := ⟨rfl, rfl, rfl, by decide +kernel, rfl, by decide +kernel, by decide +kernel⟩
theorem ok_needmoment {M : Mach} {f : Addr} {fd : FuncData} {k : Nat} (F : Fun M.K "need_moment" "need_moment" (topS 25) f fd) (g : GFn M "is_from" k spIsFrom) (h1 : ∃ t, M.mg "LAST_MOMENT" = some (.int 12000 t)) :
    FnOk M.P M.w M.K M.mg M.base (L2N.CX M.P M.w) (k + 1) f fd ["time"] (liftSp M.K spNeedMoment) := by
  refine fn_body (N := ["time"]) (vn := ["time"]) (gl := ["is_from", "LAST_MOMENT"]) F sc_needmoment (by decide +kernel) (fun ds O Φ Ψ h => ?_) fun X B ds O Φ Ψ bd h => ?_
  · obtain ⟨_, rfl, _⟩ := h
    rfl
  obtain ⟨life, rfl, l1, l2, q⟩ := h
  have C := bd.C
  change WSs _ _ [some _] _ _ _
  refine wss_one (ws_ifv (c := false) (PTv.to (pt_notv (ca := true) (pt_ofv (PEv.to (pv_call C g bd.r (by decide +kernel) (by exists "ea") fun Φ Ψ z => ⟨_, _, _, _, rfl, .int _, z⟩) ?_))) rfl) (fun h => by cases h) fun _ => wss_nil q)
  show D.bl (decide (0 ≤ life) && decide (life ≤ 12000)) = _
  rw [decide_eq_true l1, decide_eq_true l2] <;> rfl
theorem OkLog.pos {log : List Ev} (h : OkLog log) : PosEv log := fun e he => Int.lt_of_lt_of_le (by decide) (h.ev e he).2.2.1
def spRefusedAt : DSp := fun ds O Φ _ => ∃ (log : List Ev) (life : Int), ds = [.tup (log.map eEv), .int life] ∧ OkLog log ∧ Φ (eOpt (playF life 10000 log).2.2.2) O
theorem sc_refusedat : FnScope ["log", "life"] ["log", "life"] (defScope (topS 29)) := ⟨rfl, rfl, rfl, by decide +kernel, rfl, by decide +kernel, by decide +kernel⟩
theorem ok_refusedat {M : Mach} {f : Addr} {fd : FuncData} {k : Nat} (F : Fun M.K "refused_at" "refused_at" (topS 29) f fd) (g : GFn M "play" k spPlay) (h1 : ∃ t, M.mg "LAST_TIME" = some (.int 10000 t)) :
    FnOk M.P M.w M.K M.mg M.base (L2N.CX M.P M.w) (k + 1) f fd ["log", "life"] (liftSp M.K spRefusedAt) := by
  refine fn_body (N := ["log", "life"]) (vn := ["log", "life"]) (gl := ["play", "LAST_TIME"]) F sc_refusedat (by decide +kernel) (fun ds O Φ Ψ h => ?_) fun X B ds O Φ Ψ bd h => ?_
  · obtain ⟨_, _, rfl, _⟩ := h
    rfl
  obtain ⟨log, life, rfl, ok, q⟩ := h
  have C := bd.C
  have hl := ok.len
  change WSs _ _ [some _, some _] _ _ _
  exact wss_one (ws_ret (we_pv (pv_ix (pv_call' C g bd.r (by decide +kernel) (by exists "ea") fun Φ Ψ z => ⟨log, life, 10000, rfl, rfl, ok.pos, by omega, z⟩) pv_int .tup at3) q))
/-- a log that is not refused -/
structure Fine (log : List Ev) (life : Int) : Prop where
  ok : OkLog log
  l1 : 1 ≤ life
  l2 : life ≤ 1000
  no : (playF life 10000 log).2.2.2 = none
def spNeedPossible : DSp := fun ds O Φ _ => ∃ (log : List Ev) (life : Int), ds = [.tup (log.map eEv), .int life] ∧ Fine log life ∧ Φ .non O
abbrev nNeedP : List Str := ["log", "life", "index"]
theorem sc_needpossible : FnScope nNeedP ["log", "life"] (defScope (topS 30)) := ⟨rfl, rfl, rfl, by decide +kernel, rfl, by decide +kernel, by decide +kernel⟩
theorem ok_needpossible {M : Mach} {f : Addr} {fd : FuncData} {k : Nat} (F : Fun M.K "need_possible" "need_possible" (topS 30) f fd) (g1 : GFn M "need_log" k spNeedLog) (g2 : GFn M "need_life" k spNeedLife) (g3 : GFn M "refused_at" k spRefusedAt) :
    FnOk M.P M.w M.K M.mg M.base (L2N.CX M.P M.w) (k + 1) f fd ["log", "life"] (liftSp M.K spNeedPossible) := by
  refine fn_body (N := nNeedP) (vn := nNeedP) (gl := ["need_log", "need_life", "refused_at"]) F sc_needpossible (by decide +kernel) (fun ds O Φ Ψ h => ?_) fun X B ds O Φ Ψ bd h => ?_
  · obtain ⟨_, _, rfl, _⟩ := h
    rfl
  obtain ⟨log, life, rfl, ok, q⟩ := h
  have C := bd.C
  change WSs _ _ [some _, some _, none] _ _ _
  refine wss_cons (ws_expr (we_pv (pv_call C g1 bd.r (by decide +kernel) (by exists "ea") fun Φ Ψ z => ⟨log, rfl, ok.ok, z⟩) ?_))
  exists "nx"
  refine wss_cons (ws_expr (we_pv (pv_call C g2 bd.r (by decide +kernel) (by exists "ea") fun Φ Ψ z => ⟨life, rfl, ok.l1, ok.l2, z⟩) ?_))
  exists "nx"
  refine wss_cons (ws_set C (by exists "sa") (by decide +kernel) (we_pv (pv_call C g3 bd.r (by decide +kernel) (by exists "ea") fun Φ Ψ z => ⟨log, life, rfl, ok.ok, z⟩) ?_))
  exists "nx"
  refine wss_one (ws_ifv (c := false) (PTv.to (pt_isnot (by exists "ev") (by exists "ev")) ?_) (fun h => by cases h) fun _ => wss_nil q)
  rw [ok.no] <;> rfl
def spNeedAsked : DSp := fun ds O Φ _ => ∃ (log : List Ev) (t life : Int), ds = [.tup (log.map eEv), .int t, .int life] ∧ Fine log life ∧ 0 ≤ t ∧ t ≤ 12000 ∧ Φ .non O
abbrev nNeedA : List Str := ["log", "time", "life"]
theorem sc_needasked : FnScope nNeedA nNeedA (defScope (topS 34)) := ⟨rfl, rfl, rfl, by decide +kernel, rfl, by decide +kernel, by decide +kernel⟩
theorem ok_needasked {M : Mach} {f : Addr} {fd : FuncData} {k : Nat} (F : Fun M.K "need_asked" "need_asked" (topS 34) f fd) (g1 : GFn M "need_possible" k spNeedPossible) (g2 : GFn M "need_moment" k spNeedMoment) :
    FnOk M.P M.w M.K M.mg M.base (L2N.CX M.P M.w) (k + 1) f fd nNeedA (liftSp M.K spNeedAsked) := by
  refine fn_body (N := nNeedA) (vn := nNeedA) (gl := ["need_possible", "need_moment"]) F sc_needasked (by decide +kernel) (fun ds O Φ Ψ h => ?_) fun X B ds O Φ Ψ bd h => ?_
  · obtain ⟨_, _, _, rfl, _⟩ := h
    rfl
  obtain ⟨log, t, life, rfl, ok, t1, t2, q⟩ := h
  have C := bd.C
  change WSs _ _ [some _, some _, some _] _ _ _
  refine wss_cons (ws_expr (we_pv (pv_call C g1 bd.r (by decide +kernel) (by exists "ea") fun Φ Ψ z => ⟨log, life, rfl, ok, z⟩) ?_))
  exists "nx"
  exact wss_one (ws_expr (we_pv (pv_call C g2 bd.r (by decide +kernel) (by exists "ea") fun Φ Ψ z => ⟨t, rfl, t1, t2, z⟩) q))
def mergeS (acc : List (Int × Int)) (r : Int × Int) : List (Int × Int) := match acc.getLast? with
  | none => acc ++ [r]
  | some l => if l.1 = r.1 then acc.dropLast ++ [(r.1, l.2 + r.2)] else acc ++ [r]
def mergeF (rows : List (Int × Int)) : List (Int × Int) := rows.foldl mergeS []
theorem mergeS_len (acc : List (Int × Int)) (r : Int × Int) : (mergeS acc r).length ≤ acc.length + 1 := by
  unfold mergeS
  split
  · rw [List.length_append, List.length_singleton]; exact Nat.le_refl _
  · split
    · rw [List.length_append, List.length_singleton, List.length_dropLast]; omega
    · rw [List.length_append, List.length_singleton]; exact Nat.le_refl _
abbrev nMerged : List Str := ["rows", "found", "time", "amount"]
def spMerged : DSp := fun ds O Φ _ => ∃ rows : List (Int × Int), ds = [.lst (rows.map ePr)] ∧ O = [] ∧ rows.length ≤ 1000 ∧ Φ (.lst ((mergeF rows).map ePr)) []
theorem sc_merged : FnScope nMerged ["rows"] (defScope (topS 35)) := ⟨rfl, rfl, rfl, by decide +kernel, rfl, by decide +kernel, by decide +kernel⟩
theorem sh_prs (ls : List (Int × Int)) : SeqAt.shaped (.list (toPyL (ls.map ePr))) = true := shaped_map (f := ePr) fun x _ => ⟨rfl, Nat.le_of_ble_eq_true rfl⟩
theorem ok_merged {M : Mach} {f : Addr} {fd : FuncData} {k : Nat} (F : Fun M.K "merged" "merged" (topS 35) f fd) : FnOk M.P M.w M.K M.mg M.base (L2N.CX M.P M.w) (k + 1) f fd ["rows"] (liftSp M.K spMerged) := by
  refine fn_body (N := nMerged) (vn := nMerged) (gl := []) F sc_merged (by decide +kernel) (fun ds O Φ Ψ h => ?_) fun X B ds O Φ Ψ bd h => ?_
  · obtain ⟨_, rfl, _⟩ := h
    rfl
  obtain ⟨rows, rfl, rfl, hlen, q⟩ := h
  have C := bd.C
  change WSs _ _ [some _, none, none, none] _ _ _
  refine wss_cons (ws_set C (by exists "sa") (by decide +kernel) (we_own (wn_pv (pn_lst pa_nilv) fun p => ?_)))
  exists "nx"
  refine wss_cons (ws_for C (wi_v (wiv_lst (by exists "ev")) ⟨fun i G' O' => ∃ acc g2 g3, G' = [some (.lst (rows.map ePr)), some (.obj p), g2, g3] ∧ O' = [(p, .lst (acc.map ePr))] ∧ (rows.drop i).foldl mergeS acc = mergeF rows ∧ acc.length ≤ i ∧ i ≤ 1000, ⟨[], _, _, rfl, rfl, rfl, Nat.le_refl _, Nat.zero_le _⟩,
    fun _ _ _ _ _ p hp => (List.not_mem_nil hp).elim, ?_, ?_⟩))
  · rintro i d G' O' hd ⟨acc, g2, g3, rfl, rfl, e1, h1, _⟩
    obtain ⟨⟨t, n⟩, hx, rfl, hdr⟩ := map_at hd
    have hi := (List.getElem?_eq_some_iff.mp hx).1
    rw [hdr, List.foldl_cons] at e1
    have hm := mergeS_len acc (t, n)
    exists "t2"
    rcases List.eq_nil_or_concat acc with rfl | ⟨ys, ⟨t2, n2⟩, rfl⟩
    · refine wss_one (ws_ifv (c := false) (PWv.t (PWv.to (pwv_and (cb := false) (pt_neNil C (by exists "ev") (.own (by exists "mem")) (sh_prs [])) fun h => by cases h) rfl)) (fun h => by cases h) fun _ => ?_)
      refine wss_one (ws_expr (we_append (by exists "ev") (by exists "mem") (we_pv (by exists "ev") ⟨_, _, (by exists "mem"), by show 0 < 1000000; decide, (by exists "os"), ?_⟩)))
      exact ⟨[(t, n)], _, _, rfl, rfl, e1, by show 1 ≤ i + 1; omega, by omega⟩
    · rw [List.concat_eq_append] at *
      have hl : ((ys ++ [(t2, n2)]).map ePr).getLast? = some (ePr (t2, n2)) := by rw [List.map_append]; exact List.getLast?_concat
      have hne : ((ys ++ [(t2, n2)]).map ePr).isEmpty = false := by rw [List.map_append]; cases ys <;> rfl
      have hgl : (ys ++ [(t2, n2)]).getLast? = some (t2, n2) := List.getLast?_concat
      have hdl : (ys ++ [(t2, n2)]).dropLast = ys := List.dropLast_concat
      rw [List.length_append, List.length_singleton] at h1
      refine wss_one (ws_if (wt_pv (PWv.t (PWv.to (pwv_and (pt_neNil C (by exists "ev") (.own (by exists "mem")) (sh_prs _)) fun _ => pwv_and1 (pt_eq (pv_ix (pv_ix (by exists "ev") (by exists "ev") (.own (by exists "mem")) (atLast hl)) pv_int .tup at0) (by exists "ev") rfl)) (c' := decide (t2 = t)) (by rw [hne]; rfl))) (if_d (fun hq => ?_) (fun hq => ?_))))
      · have hS : mergeS (ys ++ [(t2, n2)]) (t, n) = ys ++ [(t, n2 + n)] := by
          unfold mergeS
          rw [hgl, hdl]
          exact if_pos hq
        rw [hS] at e1
        refine wss_one (ws_asg (vs := fun _ => True) (we_pv (pv_tup (pa_consv (by exists "ev") (pa_consv (pv_add (pv_ix (pv_ix (by exists "ev") (by exists "ev") (.own (by exists "mem")) (atLast hl)) pv_int .tup at1) (by exists "ev")) pa_nilv))) (wg_sub (we_pv (by exists "ev") ⟨_, rfl, we_pv (by exists "ev") ⟨-1, _, _, _, rfl, (by exists "mem"), ixLast' (fun z => by rw [z] at hne; cases hne), (by exists "os"), ?_⟩⟩))))
        refine ⟨ys ++ [(t, n2 + n)], _, _, rfl, ?_, e1, by rw [List.length_append, List.length_singleton]; omega, by omega⟩
        rw [List.map_append, List.map_append]
        exact congrArg (fun z => [(p, OV.lst z)]) set_last
      · have hS : mergeS (ys ++ [(t2, n2)]) (t, n) = (ys ++ [(t2, n2)]) ++ [(t, n)] := by
          unfold mergeS
          rw [hgl]
          exact if_neg hq
        rw [hS] at e1
        refine wss_one (ws_expr (we_append (by exists "ev") (by exists "mem") (we_pv (by exists "ev") ⟨_, _, (by exists "mem"), by rw [List.length_map, List.length_append, List.length_singleton]; omega, (by exists "os"), ?_⟩)))
        refine ⟨(ys ++ [(t2, n2)]) ++ [(t, n)], _, _, rfl, ?_, e1, by rw [List.length_append, List.length_append, List.length_singleton, List.length_singleton]; omega, by omega⟩
        rw [List.map_append (l₁ := ys ++ [(t2, n2)])]
        rfl
  · rintro G' O' ⟨acc, g2, g3, rfl, rfl, e1, h1, _⟩
    rw [List.length_map, List.drop_length] at e1
    have e1' : acc = mergeF rows := e1
    refine wss_freeze (p := p) (by exists "od") (by exists "fz") ?_
    refine wss_one (ws_ret (we_pv (by exists "ev") ?_))
    exists "nx"
    rw [e1']
    exact q
def spGone : DSp := fun ds O Φ _ => ∃ (log : List Ev) (life t : Int), ds = [.tup (log.map eEv), .int life, .int t] ∧ OkLog log ∧ Φ (.int ((playF life t log).2.1.map fun l => l.2.1).sum) O
def spThere : DSp := fun ds O Φ _ => ∃ (log : List Ev) (life t : Int), ds = [.tup (log.map eEv), .int life, .int t] ∧ OkLog log ∧ Φ (.int (total (playF life t log).1)) O
theorem runF_len (life til : Int) : ∀ (log : List Ev) (i : Nat) (ls gs : List Lot) (ts : List Tk), (runF life til i log ls gs ts).1.length + (runF life til i log ls gs ts).2.1.length ≤ ls.length + gs.length + log.length := by
  intro log
  induction log with
  | nil => exact fun i ls gs ts => Nat.le_refl _
  | cons e r ih =>
    intro i ls gs ts
    have hL := lapseF_len life e.2.1 ls
    rw [runF]
    split
    · split
      · refine Nat.le_trans (ih _ _ _ _) ?_
        simp only [List.length_append, List.length_cons, List.length_nil]
        omega
      · split
        · simp only [List.length_append, List.length_cons]
          omega
        · refine Nat.le_trans (ih _ _ _ _) ?_
          have := takeF_len (lapseF life e.2.1 ls).1 e.2.2
          simp only [List.length_append, List.length_cons]
          omega
    · refine Nat.le_trans (ih _ _ _ _) ?_
      rw [List.length_cons]
      omega
theorem playF_len (life til : Int) (log : List Ev) : (playF life til log).1.length + (playF life til log).2.1.length ≤ log.length := by
  have h := runF_len life til log 0 [] [] []
  unfold playF endF
  generalize runF life til 0 log [] [] [] = r at h
  split
  · simpa using h
  · have hL := lapseF_len life til r.1
    simp only [List.length_append]
    simp only [List.length_nil] at h
    omega
theorem sc_lapsedby : FnScope ["log", "life", "time", "row"] ["log", "life", "time"] (defScope (topS 36)) := ⟨rfl, rfl, rfl, by decide +kernel, rfl, by decide +kernel, by decide +kernel⟩
theorem ok_lapsedby {M : Mach} {f : Addr} {fd : FuncData} {k : Nat} (F : Fun M.K "lapsed_by" "lapsed_by" (topS 36) f fd) (h1 : M.mg "sum" = none) (g : GFn M "play" k spPlay) :
    FnOk M.P M.w M.K M.mg M.base (L2N.CX M.P M.w) (k + 1) f fd ["log", "life", "time"] (liftSp M.K spGone) := by
  refine fn_body (N := ["log", "life", "time", "row"]) (vn := ["log", "life", "time"]) (gl := ["sum", "play"]) F sc_lapsedby (by decide +kernel) (fun ds O Φ Ψ h => ?_) fun X B ds O Φ Ψ bd h => ?_
  · obtain ⟨_, _, _, rfl, _⟩ := h
    rfl
  obtain ⟨log, life, t, rfl, ok, q⟩ := h
  have C := bd.C
  have hl := ok.len
  have hp := playF_len life t log
  change WSs _ _ [some _, some _, some _, none] _ _ _
  refine wss_one (ws_ret (we_pv (pv_sumLcA (own := [("row", 3)]) (xs := (playF life t log).2.1) (enc := eLot) (f := fun l : Lot => l.2.1) C h1 (by decide +kernel) (by decide +kernel) (wiv_lst (pv_ix (pv_call' C g bd.r (by decide +kernel) (by exists "ea") fun Φ Ψ z => ⟨log, life, t, rfl, rfl, ok.pos, by omega, z⟩) pv_int .tup at1)) (fun p hp => (List.not_mem_nil hp).elim) (by omega) fun l hl => ⟨fun X' B' b => ?_⟩) q))
  have C' := b.C
  exists "wp"
  refine wg_name C' (by exists "sa") (by decide +kernel) (by decide) ⟨rfl, fun X2 b2 => wf_nil ⟨rfl, rfl⟩, fun _ X3 b3 => ?_⟩
  have C3 := b3.C
  exists "ev"
theorem sc_balanceof : FnScope ["log", "life", "time", "lot"] ["log", "life", "time"] (defScope (topS 37)) := ⟨rfl, rfl, rfl, by decide +kernel, rfl, by decide +kernel, by decide +kernel⟩
theorem ok_balanceof {M : Mach} {f : Addr} {fd : FuncData} {k : Nat} (F : Fun M.K "balance_of" "balance_of" (topS 37) f fd) (h1 : M.mg "sum" = none) (g : GFn M "play" k spPlay) :
    FnOk M.P M.w M.K M.mg M.base (L2N.CX M.P M.w) (k + 1) f fd ["log", "life", "time"] (liftSp M.K spThere) := by
  refine fn_body (N := ["log", "life", "time", "lot"]) (vn := ["log", "life", "time"]) (gl := ["sum", "play"]) F sc_balanceof (by decide +kernel) (fun ds O Φ Ψ h => ?_) fun X B ds O Φ Ψ bd h => ?_
  · obtain ⟨_, _, _, rfl, _⟩ := h
    rfl
  obtain ⟨log, life, t, rfl, ok, q⟩ := h
  have C := bd.C
  have hl := ok.len
  have hp := playF_len life t log
  change WSs _ _ [some _, some _, some _, none] _ _ _
  refine wss_one (ws_ret (we_pv (pv_sumLcA (own := [("lot", 3)]) (xs := (playF life t log).1) (enc := eLot) (f := fun l : Lot => l.2.1) C h1 (by decide +kernel) (by decide +kernel) (wiv_lst (pv_ix (pv_call' C g bd.r (by decide +kernel) (by exists "ea") fun Φ Ψ z => ⟨log, life, t, rfl, rfl, ok.pos, by omega, z⟩) pv_int .tup at0)) (fun p hp => (List.not_mem_nil hp).elim) (by omega) fun l hl => ⟨fun X' B' b => ?_⟩) q))
  have C' := b.C
  exists "wp"
  refine wg_name C' (by exists "sa") (by decide +kernel) (by decide) ⟨rfl, fun X2 b2 => wf_nil ⟨rfl, rfl⟩, fun _ X3 b3 => ?_⟩
  have C3 := b3.C
  exists "ev"
def lapsesF (log : List Ev) (life : Int) : List (Int × Int) := mergeF ((playF life 12000 log).2.1.map fun l : Lot => (l.1, l.2.1))
def spLapses : DSp := fun ds O Φ _ => ∃ (log : List Ev) (life : Int), ds = [.tup (log.map eEv), .int life] ∧ OkLog log ∧ Φ (.lst ((lapsesF log life).map ePr)) O
theorem sc_alllapses : FnScope ["log", "life", "row"] ["log", "life"] (defScope (topS 38)) := ⟨rfl, rfl, rfl, by decide +kernel, rfl, by decide +kernel, by decide +kernel⟩
theorem ok_alllapses {M : Mach} {f : Addr} {fd : FuncData} {k : Nat} (F : Fun M.K "all_lapses" "all_lapses" (topS 38) f fd) (h1 : ∃ t, M.mg "LAST_MOMENT" = some (.int 12000 t)) (g : GFn M "play" k spPlay) (g2 : GFn M "merged" k spMerged) :
    FnOk M.P M.w M.K M.mg M.base (L2N.CX M.P M.w) (k + 1) f fd ["log", "life"] (liftSp M.K spLapses) := by
  refine fn_body (N := ["log", "life", "row"]) (vn := ["log", "life"]) (gl := ["LAST_MOMENT", "play", "merged"]) F sc_alllapses (by decide +kernel) (fun ds O Φ Ψ h => ?_) fun X B ds O Φ Ψ bd h => ?_
  · obtain ⟨_, _, rfl, _⟩ := h
    rfl
  obtain ⟨log, life, rfl, ok, q⟩ := h
  have C := bd.C
  have hl := ok.len
  have hp := playF_len life 12000 log
  change WSs _ _ [some _, some _, none] _ _ _
  refine wss_one (ws_ret (we_pv (pv_call' (v := .lst ((lapsesF log life).map ePr)) C g2 bd.r (by decide +kernel) (pa_consv (pv_frz (pn_lcA (own := [("row", 2)]) (xs := (playF life 12000 log).2.1) (enc := eLot) (f := fun l : Lot => ePr (l.1, l.2.1)) C (by decide +kernel) (wiv_lst (pv_ix (pv_call' C g bd.r (by decide +kernel) (by exists "ea") fun Φ Ψ z => ⟨log, life, 12000, rfl, rfl, ok.pos, by omega, z⟩) pv_int .tup at1)) (fun p hp => (List.not_mem_nil hp).elim) (by omega) fun l hl => ⟨fun X' B' b => ?_⟩)) pa_nilv) fun Φ Ψ z => ⟨(playF life 12000 log).2.1.map fun l : Lot => (l.1, l.2.1), by rw [List.map_map]; rfl, rfl, by rw [List.length_map]; omega, z⟩) q))
  have C' := b.C
  exists "wp"
  refine wg_name C' (by exists "sa") (by decide +kernel) (by decide) ⟨rfl, fun X2 b2 => wf_nil ⟨rfl, rfl⟩, fun _ X3 b3 => ?_⟩
  have C3 := b3.C
  exists "ev"
def spApi_lapsed : DSp := fun ds O Φ _ => ∃ (log : List Ev) (t life : Int), ds = [.tup (log.map eEv), .int t, .int life] ∧ Fine log life ∧ 0 ≤ t ∧ t ≤ 12000 ∧ Φ (.int ((playF life t log).2.1.map fun l => l.2.1).sum) O
theorem sc_lapsed : FnScope nNeedA nNeedA (defScope (topS 40)) := ⟨rfl, rfl, rfl, by decide +kernel, rfl, by decide +kernel, by decide +kernel⟩
theorem ok_lapsed {M : Mach} {f : Addr} {fd : FuncData} {k : Nat} (F : Fun M.K "lapsed" "lapsed" (topS 40) f fd) (g : GFn M "need_asked" k spNeedAsked) (g2 : GFn M "lapsed_by" k spGone) :
    FnOk M.P M.w M.K M.mg M.base (L2N.CX M.P M.w) (k + 1) f fd nNeedA (liftSp M.K spApi_lapsed) := by
  refine fn_body (N := nNeedA) (vn := nNeedA) (gl := ["need_asked", "lapsed_by"]) F sc_lapsed (by decide +kernel) (fun ds O Φ Ψ h => ?_) fun X B ds O Φ Ψ bd h => ?_
  · obtain ⟨_, _, _, rfl, _⟩ := h
    rfl
  obtain ⟨log, t, life, rfl, ok, t1, t2, q⟩ := h
  have C := bd.C
  change WSs _ _ [some _, some _, some _] _ _ _
  refine wss_cons (ws_expr (we_pv (pv_call C g bd.r (by decide +kernel) (by exists "ea") fun Φ Ψ z => ⟨log, t, life, rfl, ok, t1, t2, z⟩) ?_))
  exists "nx"
  exact wss_one (ws_ret (we_pv (pv_call C g2 bd.r (by decide +kernel) (by exists "ea") fun Φ Ψ z => ⟨log, life, t, rfl, ok.ok, z⟩) q))
def spApi_balance : DSp := fun ds O Φ _ => ∃ (log : List Ev) (t life : Int), ds = [.tup (log.map eEv), .int t, .int life] ∧ Fine log life ∧ 0 ≤ t ∧ t ≤ 12000 ∧ Φ (.int (total (playF life t log).1)) O
theorem sc_balance : FnScope nNeedA nNeedA (defScope (topS 39)) := ⟨rfl, rfl, rfl, by decide +kernel, rfl, by decide +kernel, by decide +kernel⟩
theorem ok_balance {M : Mach} {f : Addr} {fd : FuncData} {k : Nat} (F : Fun M.K "balance" "balance" (topS 39) f fd) (g : GFn M "need_asked" k spNeedAsked) (g2 : GFn M "balance_of" k spThere) :
    FnOk M.P M.w M.K M.mg M.base (L2N.CX M.P M.w) (k + 1) f fd nNeedA (liftSp M.K spApi_balance) := by
  refine fn_body (N := nNeedA) (vn := nNeedA) (gl := ["need_asked", "balance_of"]) F sc_balance (by decide +kernel) (fun ds O Φ Ψ h => ?_) fun X B ds O Φ Ψ bd h => ?_
  · obtain ⟨_, _, _, rfl, _⟩ := h
    rfl
  obtain ⟨log, t, life, rfl, ok, t1, t2, q⟩ := h
  have C := bd.C
  change WSs _ _ [some _, some _, some _] _ _ _
  refine wss_cons (ws_expr (we_pv (pv_call C g bd.r (by decide +kernel) (by exists "ea") fun Φ Ψ z => ⟨log, t, life, rfl, ok, t1, t2, z⟩) ?_))
  exists "nx"
  exact wss_one (ws_ret (we_pv (pv_call C g2 bd.r (by decide +kernel) (by exists "ea") fun Φ Ψ z => ⟨log, life, t, rfl, ok.ok, z⟩) q))
def worstF (log : List Ev) (t life : Int) : Option Int := (((lapsesF log life).filter fun r => decide (r.1 ≤ t)).getLast?).map fun r => r.1
def eOI : Option Int → D
  | none => .non
  | some i => .int i
def spWorst : DSp := fun ds O Φ _ => ∃ (log : List Ev) (t life : Int), ds = [.tup (log.map eEv), .int t, .int life] ∧ Fine log life ∧ 0 ≤ t ∧ t ≤ 12000 ∧ Φ (eOI (worstF log t life)) O
abbrev nWorst : List Str := ["log", "time", "life", "rows", "row"]
theorem sc_worst : FnScope nWorst nNeedA (defScope (topS 43)) := ⟨rfl, rfl, rfl, by decide +kernel, rfl, by decide +kernel, by decide +kernel⟩
theorem mergeF_len (rows : List (Int × Int)) : (mergeF rows).length ≤ rows.length := by
  suffices h : ∀ (rows acc : List (Int × Int)), (rows.foldl mergeS acc).length ≤ acc.length + rows.length by
    have z := h rows []
    rw [List.length_nil, Nat.zero_add] at z
    exact z
  intro rows
  induction rows with
  | nil => exact fun acc => Nat.le_refl _
  | cons r t ih =>
    intro acc
    have h1 := ih (mergeS acc r)
    have h2 := mergeS_len acc r
    rw [List.foldl_cons, List.length_cons]
    omega
theorem ok_worst {M : Mach} {f : Addr} {fd : FuncData} {k : Nat} (F : Fun M.K "worst_moment" "worst_moment" (topS 43) f fd) (g : GFn M "need_asked" k spNeedAsked) (g2 : GFn M "all_lapses" k spLapses) :
    FnOk M.P M.w M.K M.mg M.base (L2N.CX M.P M.w) (k + 1) f fd nNeedA (liftSp M.K spWorst) := by
  refine fn_body (N := nWorst) (vn := ["log", "time", "life", "rows"]) (gl := ["need_asked", "all_lapses"]) F sc_worst (by decide +kernel) (fun ds O Φ Ψ h => ?_) fun X B ds O Φ Ψ bd h => ?_
  · obtain ⟨_, _, _, rfl, _⟩ := h
    rfl
  obtain ⟨log, t, life, rfl, ok, t1, t2, q⟩ := h
  have C := bd.C
  have hl := ok.ok.len
  have hp := playF_len life 12000 log
  have hm := mergeF_len ((playF life 12000 log).2.1.map fun l : Lot => (l.1, l.2.1))
  rw [List.length_map] at hm
  change (lapsesF log life).length ≤ _ at hm
  change WSs _ _ [some _, some _, some _, none, none] _ _ _
  refine wss_cons (ws_expr (we_pv (pv_call C g bd.r (by decide +kernel) (by exists "ea") fun Φ Ψ z => ⟨log, t, life, rfl, ok, t1, t2, z⟩) ?_))
  exists "nx"
  refine wss_cons (ws_setLcP (own := [("row", 4)]) (xs := lapsesF log life) (enc := ePr) (c := fun r => decide (r.1 ≤ t)) (f := ePr) C (by exists "sa") rfl (by decide +kernel) (wiv_lst (pv_call C g2 bd.r (by decide +kernel) (by exists "ea") fun Φ Ψ z => ⟨log, life, rfl, ok.ok, z⟩)) (fun p hp => (List.not_mem_nil hp).elim) (by omega) (fun l hl => ⟨fun X' B' b => ?_⟩) fun p => ?_)
  · have C' := b.C
    exists "wp"
    refine wg_name C' (by exists "sa") (by decide +kernel) (by decide) ⟨rfl, fun X2 b2 => ?_, fun _ X3 b3 => ?_⟩
    · have C2 := b2.C
      exact wf_pv (by exists "et") ⟨rfl, rfl⟩
    · have C3 := b3.C
      exists "ev"
  · exists "nx"
    generalize hr : (lapsesF log life).filter (fun r => decide (r.1 ≤ t)) = rs
    have hq : worstF log t life = rs.getLast?.map fun r => r.1 := by rw [← hr]; rfl
    rw [hq] at q
    rcases List.eq_nil_or_concat rs with rfl | ⟨ys, y, rfl⟩
    · refine wss_one (ws_ret (we_less (we_pv (PEv.to (pv_if (ca := false) (d1 := .non) (pt_neNil C (by exists "ev") (.own (by exists "mem")) (sh_prs [])) (fun h => by cases h) fun _ => pv_non) rfl) ⟨O, List.sublist_cons_self _ _, q⟩)))
    · rw [List.concat_eq_append] at *
      have hl : ((ys ++ [y]).map ePr).getLast? = some (ePr y) := by rw [List.map_append]; exact List.getLast?_concat
      have hne : (!((ys ++ [y]).map ePr).isEmpty) = true := by rw [List.map_append]; cases ys <;> rfl
      have hgl : (ys ++ [y]).getLast? = some y := List.getLast?_concat
      rw [hgl] at q
      exact wss_one (ws_ret (we_less (we_pv (PEv.to (pv_if (ca := true) (d1 := .int y.1) (d2 := .non) (PTv.to (pt_neNil C (by exists "ev") (.own (by exists "mem")) (sh_prs _)) hne) (fun _ => pv_ix (pv_ix (by exists "ev") (by exists "ev") (.own (by exists "mem")) (atLast hl)) pv_int .tup at0) fun h => by cases h) rfl) ⟨O, List.sublist_cons_self _ _, q⟩)))
/-- a deck that has turned at most n times -/
inductive Dk (n : Int) : List D → Prop
  | mk {w s c : Int} (hw : 0 ≤ w) (hs : 0 ≤ s) (hs2 : s < 2147483648) (hc : 0 ≤ c) (hn : c ≤ n) : Dk n [.int w, .int s, .int c]
theorem Dk.mono {n m : Int} {ds : List D} (h : Dk n ds) (l : n ≤ m) : Dk m ds := by
  cases h with
  | mk hw hs hs2 hc hn => exact .mk hw hs hs2 hc (Int.le_trans hn l)
def spDeck : DSp := fun ds O Φ _ => ∃ c t : Int, ds = [.int c, .int t] ∧ O = [] ∧ 0 ≤ t ∧ ∀ p xs, Dk t xs → Φ (.obj p) [(p, .lst xs)]
theorem sc_deck : FnScope ["_law_cell", "_law_turn"] ["_law_cell", "_law_turn"] (defScope (topS 82)) := ⟨rfl, rfl, rfl, by decide +kernel, rfl, by decide +kernel, by decide +kernel⟩
theorem ok_deck {M : Mach} {f : Addr} {fd : FuncData} {k : Nat} (F : Fun M.K "_law_deck" "_law_deck" (topS 82) f fd) :
    FnOk M.P M.w M.K M.mg M.base (L2N.CX M.P M.w) (k + 1) f fd ["_law_cell", "_law_turn"] (liftSp M.K spDeck) := by
  refine fn_body (N := ["_law_cell", "_law_turn"]) (vn := ["_law_cell", "_law_turn"]) (gl := []) F sc_deck (by decide +kernel) (fun ds O Φ Ψ h => ?_) fun X B ds O Φ Ψ bd h => ?_
  · obtain ⟨_, _, rfl, _⟩ := h
    rfl
  obtain ⟨c, t, rfl, rfl, ht, q⟩ := h
  have C := bd.C
  have m1 : 0 ≤ c % 2147483579 := Int.emod_nonneg _ (by decide)
  have m2 : c % 2147483579 < 2147483579 := Int.emod_lt_of_pos _ (by decide)
  change WSs _ _ [some _, some _] _ _ _
  refine wss_cons (ws_if (wt_pv (by exists "et") (if_d (fun hq => ?_) (fun hq => ?_))))
  · refine wss_one (ws_ret (we_own (wn_pv (pn_lst (by exists "ea")) fun p => q p _ (.mk ?_ m1 (by omega) ht (Int.le_refl _)))))
    have hq' : (1000000000000000000 : Int) ≤ c := hq
    show 0 ≤ c - 1000000000000000000
    omega
  · refine wss_nil ?_
    exists "nx"
    exact wss_one (ws_ret (we_own (wn_pv (pn_lst (by exists "ea")) fun p => q p _ (.mk (Int.le_refl 0) m1 (by omega) ht (Int.le_refl _)))))
abbrev nPick : List Str := ["_law_deck_here", "_law_limit", "_law_found", "_law_number"]
def spPick : DSp := fun ds O Φ _ => ∃ (a : Addr) (xs : List D) (n lim : Int), ds = [.obj a, .int lim] ∧ O = [(a, .lst xs)] ∧ Dk n xs ∧ n < 1000000 ∧ 0 < lim ∧ lim < 1073741824 ∧ ∀ r ys, 0 ≤ r → r < lim → Dk (n + 1) ys → Φ (.int r) [(a, .lst ys)]
theorem sc_pick : FnScope nPick ["_law_deck_here", "_law_limit"] (defScope (topS 83)) := ⟨rfl, rfl, rfl, by decide +kernel, rfl, by decide +kernel, by decide +kernel⟩
theorem ok_pick {M : Mach} {f : Addr} {fd : FuncData} {k : Nat} (F : Fun M.K "_law_pick" "_law_pick" (topS 83) f fd) :
    FnOk M.P M.w M.K M.mg M.base (L2N.CX M.P M.w) (k + 1) f fd ["_law_deck_here", "_law_limit"] (liftSp M.K spPick) := by
  refine fn_body (N := nPick) (vn := nPick) (gl := []) F sc_pick (by decide +kernel) (fun ds O Φ Ψ h => ?_) fun X B ds O Φ Ψ bd h => ?_
  · obtain ⟨_, _, _, _, rfl, _⟩ := h
    rfl
  obtain ⟨a, xs, n, lim, rfl, rfl, dk, hn, l1, l2, q⟩ := h
  cases dk with
  | @mk w s c hw hs hs2 hc hcn =>
  have C := bd.C
  have cd : CDiv w lim := ⟨l1, l2⟩
  have mm : ∀ x : Int, 0 ≤ x % lim ∧ x % lim < lim := fun x => ⟨Int.emod_nonneg _ (by omega), Int.emod_lt_of_pos _ l1⟩
  change WSs _ _ [some _, some _, none, none] _ _ _
  refine wss_cons (ws_if (wt_pv (by exists "et") (if_d (fun hq => ?_) (fun hq => ?_))))
  · refine wss_cons (ws_set C (by exists "sa") (by decide +kernel) (we_pv (by exists "ev") ?_))
    exists "nx"
    refine wss_cons (ws_asg (vs := fun _ => True) (we_pv (by exists "ev") (wg_sub (we_pv (by exists "ev") ⟨_, rfl, we_pv pv_int ⟨0, 0, _, _, rfl, (by exists "mem"), ix0, (by exists "os"), ?_⟩⟩))))
    exists "nx"
    refine wss_one (ws_ret (we_pv (by exists "ev") ?_))
    exact q _ _ (mm _).1 (mm _).2 (.mk (Int.ediv_nonneg hw (by omega)) hs hs2 hc (by omega))
  · refine wss_nil ?_
    exists "nx"
    refine wss_cons (ws_asg (vs := fun _ => True) (we_pv (by exists "ev") (wg_sub (we_pv (by exists "ev") ⟨_, rfl, we_pv pv_int ⟨2, 2, _, _, rfl, (by exists "mem"), ix2, (by exists "os"), ?_⟩⟩))))
    exists "nx"
    have c1 : CPow (s + 15485867 * (c + 1)) 5 := ⟨by decide, by decide, by omega⟩
    change WSs _ _ _ [(a, .lst [.int w, .int s, .int (c + 1)])] _ _
    refine wss_cons (ws_set C (by exists "sa") (by decide +kernel) (we_pv (by exists "ev") ?_))
    exists "nx"
    generalize hN : (s + 15485867 * (c + 1)) ^ (5 : Int).toNat % 2147483647 = N
    have n1 : 0 ≤ N := by rw [← hN]; exact Int.emod_nonneg _ (by decide)
    have n2 : N < 2147483647 := by rw [← hN]; exact Int.emod_lt_of_pos _ (by decide)
    have c2 : CPow (N + 7919 * (c + 1)) 3 := ⟨by decide, by decide, by omega⟩
    refine wss_cons (ws_set C (by exists "sa") (by decide +kernel) (we_pv (by exists "ev") ?_))
    exists "nx"
    refine wss_cons (ws_if (wt_pv (by exists "et") (if_d (fun hp => ?_) (fun hp => ?_))))
    · refine wss_one (ws_ret (we_pv (by exists "ev") ?_))
      exact q _ _ (mm _).1 (mm _).2 (.mk hw hs hs2 (by omega) (by omega))
    · refine wss_nil ?_
      exists "nx"
      refine wss_one (ws_ret (we_pv (by exists "ev") ?_))
      exact q _ _ (mm _).1 (mm _).2 (.mk hw hs hs2 (by omega) (by omega))
abbrev KEv := Str × Int × Int
abbrev kOf (e : Ev) : KEv := (kW e.1, e.2)
def partK (k : Str) (m n : Int) : Int := if decide (k = "spend") = true then (if n < m then n else m) else 0
def spendK (k : Str) : List (Int × Int) → Int → List (Int × Int)
  | [], _ => []
  | l :: r, n => (l.1, l.2 - partK k l.2 n) :: spendK k r (n - partK k l.2 n)
def goneK (span t : Int) (ls : List (Int × Int)) : List (Int × Int) := (ls.filter fun l => decide (l.1 + span ≤ t) && decide (0 < l.2)).map fun l => (l.1 + span, l.2)
def keepK (span t : Int) (ls : List (Int × Int)) : List (Int × Int) := ls.filter fun l => decide (t < l.1 + span) && decide (0 < l.2)
abbrev LR := List (Int × Int) × List (Int × Int) × Option Nat
def oRun (span til : Int) : Nat → List KEv → List (Int × Int) → List (Int × Int) → LR
  | _, [], ls, gs => (ls.filter fun l => decide (0 < l.2), gs, none)
  | i, e :: r, ls, gs => if e.2.1 ≤ til then
      (if e.1 = "earn" then oRun span til (i + 1) r (spendK e.1 (keepK span e.2.1 ls ++ [(e.2.1, e.2.2)]) e.2.2) (gs ++ goneK span e.2.1 ls)
       else if ((keepK span e.2.1 ls).map fun l => l.2).sum < e.2.2 then (keepK span e.2.1 ls, gs ++ goneK span e.2.1 ls, some i)
       else oRun span til (i + 1) r (spendK e.1 (keepK span e.2.1 ls) e.2.2) (gs ++ goneK span e.2.1 ls))
    else oRun span til (i + 1) r ls gs
def lotsF (log : List Ev) (span til : Int) : LR := oRun span til 0 (log.map kOf ++ [(("stop" : Str), til, 0)]) [] []
def sumK (ls : List (Int × Int)) : Int := (ls.map fun l => l.2).sum
theorem kW_earn (b : Bool) : decide (kW b = "earn") = b := by cases b <;> decide
theorem kW_spend (b : Bool) : decide (kW b = "spend") = !b := by cases b <;> decide
def earnedBy (log : List Ev) (span m : Int) : Int := ((log.filter fun e : Ev => e.1 && decide (e.2.1 + span ≤ m)).map fun e : Ev => e.2.2).sum
def spentBefore (log : List Ev) (m : Int) : Int := ((log.filter fun e : Ev => !e.1 && decide (e.2.1 < m)).map fun e : Ev => e.2.2).sum
def valueF (log : List Ev) (span m : Int) : Int := earnedBy log span m - spentBefore log m
structure Gd (log : List Ev) (span time : Int) : Prop where
  ev : ∀ e ∈ log, PosE e ∧ e.2.1 ≤ time
  ord : OrdEv log
  no : (playF span 10000 log).2.2.2 = none
def goneBy (log : List Ev) (span u : Int) : Int := ((playF span u log).2.1.map fun l => l.2.1).sum
def sumBy {α : Type} (f : α → Int) (p : α → Bool) (xs : List α) : Int := ((xs.filter p).map f).sum
section
variable {α : Type} {f : α → Int} {p q : α → Bool}
theorem sumBy_nil : sumBy f p [] = 0 := rfl
theorem sumBy_cons (x : α) (xs : List α) : sumBy f p (x :: xs) = (if p x = true then f x else 0) + sumBy f p xs := by
  unfold sumBy
  by_cases h : p x = true
  · rw [List.filter_cons_of_pos h, List.map_cons, List.sum_cons, if_pos h]
  · rw [List.filter_cons_of_neg h, if_neg h, Int.zero_add]
theorem sumBy_app (xs ys : List α) : sumBy f p (xs ++ ys) = sumBy f p xs + sumBy f p ys := by
  unfold sumBy
  rw [List.filter_append, List.map_append, List.sum_append]
theorem sumBy_congr {xs : List α} (h : ∀ x ∈ xs, p x = q x) : sumBy f p xs = sumBy f q xs := by
  unfold sumBy
  rw [List.filter_congr h]
theorem sumBy_split (p q : α → Bool) (xs : List α) : sumBy f p xs = sumBy f (fun x => p x && q x) xs + sumBy f (fun x => p x && !q x) xs := by
  induction xs with
  | nil => rfl
  | cons x xs ih =>
    rw [sumBy_cons, sumBy_cons, sumBy_cons, ih]
    cases p x <;> cases q x <;> simp <;> omega
theorem sumBy_nonneg {xs : List α} (h : ∀ x ∈ xs, 0 ≤ f x) : 0 ≤ sumBy f p xs := by
  induction xs with
  | nil => exact Int.le_refl _
  | cons x xs ih =>
    rw [sumBy_cons]
    have h1 := ih fun y hy => h y (List.mem_cons_of_mem _ hy)
    have h2 := h x List.mem_cons_self
    split <;> omega
theorem sumBy_none {xs : List α} (h : ∀ x ∈ xs, p x = false) : sumBy f p xs = 0 := by
  unfold sumBy
  rw [List.filter_eq_nil_iff.mpr fun x hx => by rw [h x hx]; decide]
  rfl
theorem sumBy_mono {xs : List α} (h : ∀ x ∈ xs, 0 ≤ f x) (k : ∀ x ∈ xs, p x = true → q x = true) : sumBy f p xs ≤ sumBy f q xs := by
  induction xs with
  | nil => exact Int.le_refl _
  | cons x xs ih =>
    rw [sumBy_cons, sumBy_cons]
    have h1 := ih (fun y hy => h y (List.mem_cons_of_mem _ hy)) fun y hy => k y (List.mem_cons_of_mem _ hy)
    have h2 := h x List.mem_cons_self
    have h3 := k x List.mem_cons_self
    by_cases a : p x = true
    · rw [if_pos a, if_pos (h3 a)]; omega
    · rw [if_neg a]; split <;> omega
theorem sumBy_filter (xs : List α) : sumBy f p (xs.filter q) = sumBy f (fun x => q x && p x) xs := by
  induction xs with
  | nil => rfl
  | cons x xs ih =>
    by_cases h : q x = true
    · rw [List.filter_cons_of_pos h, sumBy_cons, sumBy_cons, ih, h, Bool.true_and]
    · rw [List.filter_cons_of_neg h, sumBy_cons, ih, Bool.not_eq_true _ |>.mp h, Bool.false_and, if_neg Bool.false_ne_true, Int.zero_add]
theorem sumBy_map {β : Type} (g : β → α) (xs : List β) : sumBy f p (xs.map g) = sumBy (fun x => f (g x)) (fun x => p (g x)) xs := by
  induction xs with
  | nil => rfl
  | cons x xs ih => rw [List.map_cons, sumBy_cons, sumBy_cons, ih]
end
abbrev lam (l : Lot) : Int := l.2.1
abbrev eam (e : Ev) : Int := e.2.2
theorem total_sumBy (ls : List Lot) : total ls = sumBy lam (fun _ => true) ls := by
  unfold total sumBy
  rw [List.filter_eq_self.mpr fun _ _ => rfl]
abbrev Asc (ls : List Lot) : Prop := ls.Pairwise fun a b => a.1 ≤ b.1
def rowOf (span : Int) (l : Lot) : Lot := (l.1 + span, l.2.1, l.2.2)
theorem lapseF_asc {span t : Int} {ls : List Lot} (h : Asc ls) : lapseF span t ls = (ls.filter fun l => decide (t < l.1 + span), (ls.filter fun l => decide (l.1 + span ≤ t)).map (rowOf span)) := by
  induction ls with
  | nil => rfl
  | cons l r ih =>
    obtain ⟨h1, h2⟩ := List.pairwise_cons.mp h
    rw [lapseF]
    by_cases c : l.1 + span ≤ t
    · rw [if_pos c, ih h2, List.filter_cons_of_neg (by simp; omega), List.filter_cons_of_pos (by simp; omega), List.map_cons]
      rfl
    · rw [if_neg c, List.filter_eq_self.mpr, List.filter_eq_nil_iff.mpr, List.map_nil]
      · intro x hx
        rcases List.mem_cons.mp hx with e | hx
        · subst e; simp; omega
        · have := h1 x hx; simp; omega
      · intro x hx
        rcases List.mem_cons.mp hx with e | hx
        · subst e; simp; omega
        · have := h1 x hx; simp; omega
theorem takeF_src {ls : List Lot} : ∀ {n : Int}, ∀ x ∈ (takeF ls n).1, ∃ l ∈ ls, l.1 = x.1 ∧ l.2.2 = x.2.2 := by
  induction ls with
  | nil => exact fun x h => (List.not_mem_nil h).elim
  | cons l r ih =>
    intro n x
    rw [takeF]
    split
    · split
      · intro h
        obtain ⟨y, h1, h2⟩ := ih x h
        exact ⟨y, List.mem_cons_of_mem _ h1, h2⟩
      · intro h
        rcases List.mem_cons.mp h with e | h
        · exact ⟨l, List.mem_cons_self, by rw [e], by rw [e]⟩
        · exact ⟨x, List.mem_cons_of_mem _ h, rfl, rfl⟩
    · exact fun h => ⟨x, h, rfl, rfl⟩
theorem takeF_asc {ls : List Lot} (h : Asc ls) : ∀ {n : Int}, Asc (takeF ls n).1 := by
  induction ls with
  | nil => exact h
  | cons l r ih =>
    obtain ⟨h1, h2⟩ := List.pairwise_cons.mp h
    intro n
    rw [takeF]
    split
    · split
      · exact ih h2
      · exact List.pairwise_cons.mpr ⟨h1, h2⟩
    · exact h
theorem takeF_total {ls : List Lot} (h : PosL ls) : ∀ {n : Int}, 0 ≤ n → n ≤ total ls → total (takeF ls n).1 = total ls - n := by
  induction ls with
  | nil => intro n h1 h2; rw [total_nil] at h2; rw [takeF, total_nil]; omega
  | cons l r ih =>
    intro n h1 h2
    have h3 := h l List.mem_cons_self
    rw [total_cons] at h2 ⊢
    rw [takeF]
    split
    · split
      · rw [ih h.tail (by omega) (by omega)]; omega
      · rw [total_cons]; show l.2.1 - n + total r = _; omega
    · rw [total_cons]; omega
def above (c : Int) (ls : List Lot) : Int := sumBy lam (fun l => decide (c < l.1)) ls
theorem above_cons (c : Int) (l : Lot) (r : List Lot) : above c (l :: r) = (if c < l.1 then l.2.1 else 0) + above c r := by
  unfold above
  rw [sumBy_cons]
  by_cases h : c < l.1
  · rw [if_pos (decide_eq_true h), if_pos h]
  · rw [if_neg (by simpa using h), if_neg h]
theorem takeF_above {ls : List Lot} (h : Asc ls) (p : PosL ls) (c : Int) : ∀ {n : Int}, 0 ≤ n → above c (takeF ls n).1 ≤ above c ls ∧ ((∃ l ∈ (takeF ls n).1, l.1 ≤ c) → above c (takeF ls n).1 = above c ls) := by
  induction ls with
  | nil => exact fun _ => ⟨Int.le_refl _, fun _ => rfl⟩
  | cons l r ih =>
    obtain ⟨h1, h2⟩ := List.pairwise_cons.mp h
    have h3 := p l List.mem_cons_self
    intro n hn
    rw [takeF]
    split
    · split
      · obtain ⟨i1, i2⟩ := ih h2 p.tail (n := n - l.2.1) (by omega)
        rw [above_cons]
        refine ⟨by dsimp only; split <;> omega, fun ⟨x, hx, hc⟩ => ?_⟩
        obtain ⟨y, y1, y2, _⟩ := takeF_src x hx
        have := h1 y y1
        rw [if_neg (by omega), Int.zero_add]
        exact i2 ⟨x, hx, hc⟩
      · rw [above_cons, above_cons]
        refine ⟨by dsimp only; split <;> omega, fun ⟨x, hx, hc⟩ => ?_⟩
        have z : l.1 ≤ c := by
          rcases List.mem_cons.mp hx with e | hx
          · rw [e] at hc; exact hc
          · exact Int.le_trans (h1 x hx) hc
        rw [if_neg (by dsimp only; omega), if_neg (by omega)]
    · exact ⟨Int.le_refl _, fun _ => rfl⟩
def isE (e : Ev) : Bool := e.1
def isS (e : Ev) : Bool := !e.1
structure Inv (log : List Ev) (span T : Int) (ls gs : List Lot) : Prop where
  tot : total ls + total gs = sumBy eam isE log - sumBy eam isS log
  pos : PosL ls
  posg : PosL gs
  asc : Asc ls
  ascg : Asc gs
  rng : ∀ l ∈ ls, T < l.1 + span ∧ l.1 ≤ T
  gle : ∀ g ∈ gs, g.1 ≤ T
  evs : ∀ e ∈ log, e.2.1 ≤ T
  src : ∀ l ∈ ls, ∃ e ∈ log, e.1 = true ∧ e.2.1 = l.1
  srcg : ∀ g ∈ gs, ∃ e ∈ log, e.1 = true ∧ e.2.1 + span = g.1
  ab1 : ∀ c, above c ls ≤ sumBy eam (fun e => isE e && decide (c < e.2.1)) log
  ab2 : ∀ c, (∃ l ∈ ls, l.1 ≤ c) → above c ls = sumBy eam (fun e => isE e && decide (c < e.2.1)) log
  v1 : ∀ s, s ≤ T → valueF log span s ≤ sumBy lam (fun g => decide (g.1 ≤ s)) gs
  v2 : ∀ g ∈ gs, valueF log span g.1 = sumBy lam (fun x => decide (x.1 ≤ g.1)) gs
theorem valueF_sumBy (log : List Ev) (span m : Int) : valueF log span m = sumBy eam (fun e => isE e && decide (e.2.1 + span ≤ m)) log - sumBy eam (fun e => isS e && decide (e.2.1 < m)) log := rfl
theorem inv_nil (span T : Int) : Inv [] span T [] [] :=
  ⟨rfl, fun _ h => (List.not_mem_nil h).elim, fun _ h => (List.not_mem_nil h).elim, .nil, .nil, fun _ h => (List.not_mem_nil h).elim, fun _ h => (List.not_mem_nil h).elim, fun _ h => (List.not_mem_nil h).elim, fun _ h => (List.not_mem_nil h).elim, fun _ h => (List.not_mem_nil h).elim, fun _ => Int.le_refl _, fun _ _ => rfl, fun _ _ => Int.le_refl _, fun _ h => (List.not_mem_nil h).elim⟩
theorem Inv.later {log : List Ev} {span T T' : Int} {ls gs : List Lot} (h : Inv log span T ls gs) (hT : T ≤ T') : Inv log span T' (lapseF span T' ls).1 (gs ++ (lapseF span T' ls).2) := by
  have L := lapseF_asc (span := span) (t := T') h.asc
  rw [L]
  dsimp only
  have rows : ∀ g ∈ (ls.filter fun l => decide (l.1 + span ≤ T')).map (rowOf span), ∃ l ∈ ls, g = rowOf span l ∧ l.1 + span ≤ T' := fun g hg => by
    obtain ⟨l, hl, rfl⟩ := List.mem_map.mp hg
    obtain ⟨h1, h2⟩ := List.mem_filter.mp hl
    exact ⟨l, h1, rfl, by simpa using h2⟩
  have tots : total ls = total (ls.filter fun l => decide (T' < l.1 + span)) + total ((ls.filter fun l => decide (l.1 + span ≤ T')).map (rowOf span)) := by
    rw [total_sumBy, total_sumBy, total_sumBy, sumBy_map, sumBy_filter, sumBy_filter, sumBy_split _ (fun l : Lot => decide (T' < l.1 + span))]
    refine congr (congrArg _ ?_) ?_
    · exact sumBy_congr fun x _ => by simp
    · exact sumBy_congr fun x _ => by rw [Bool.true_and, Bool.and_true, ← decide_not, decide_eq_decide]; exact Int.not_lt
  have val : ∀ s, T < s → s ≤ T' → valueF log span s = total ls + total gs - sumBy eam (fun e => isE e && decide (s - span < e.2.1)) log := fun s h1 h2 => by
    rw [h.tot, valueF_sumBy, sumBy_split isE (fun e => decide (s - span < e.2.1))]
    have a : sumBy eam (fun e => isS e && decide (e.2.1 < s)) log = sumBy eam isS log := sumBy_congr fun e he => by
      have := h.evs e he
      rw [decide_eq_true (by omega), Bool.and_true]
    have b : sumBy eam (fun e => isE e && decide (e.2.1 + span ≤ s)) log = sumBy eam (fun e => isE e && !decide (s - span < e.2.1)) log := sumBy_congr fun e he => by
      rw [← decide_not]
      refine congrArg _ (decide_eq_decide.mpr ?_)
      omega
    rw [a, b]
    omega
  have upn : ∀ s, T < s → s ≤ T' → sumBy lam (fun g => decide (g.1 ≤ s)) (gs ++ (ls.filter fun l => decide (l.1 + span ≤ T')).map (rowOf span)) = total gs + (total ls - above (s - span) ls) := fun s h1 h2 => by
    rw [sumBy_app, sumBy_map, sumBy_filter, total_sumBy gs, total_sumBy ls, sumBy_split (fun _ => true) (fun l : Lot => decide (s - span < l.1)) ls]
    have a : sumBy lam (fun g => decide (g.1 ≤ s)) gs = sumBy lam (fun _ => true) gs := sumBy_congr fun g hg => decide_eq_true (by have := h.gle g hg; omega)
    have b : sumBy (fun x => lam (rowOf span x)) (fun l : Lot => decide (l.1 + span ≤ T') && decide ((rowOf span l).1 ≤ s)) ls = sumBy lam (fun l : Lot => true && !decide (s - span < l.1)) ls := by
      show sumBy lam _ ls = _
      refine sumBy_congr fun l _ => ?_
      rw [Bool.true_and, ← decide_not, ← Bool.decide_and]
      exact decide_eq_decide.mpr (by show _ ∧ l.1 + span ≤ s ↔ _; omega)
    have d : above (s - span) ls = sumBy lam (fun l : Lot => true && decide (s - span < l.1)) ls := sumBy_congr fun l _ => (Bool.true_and _).symm
    rw [a, b, d]
    omega
  have upo : ∀ s, s ≤ T → sumBy lam (fun g => decide (g.1 ≤ s)) (gs ++ (ls.filter fun l => decide (l.1 + span ≤ T')).map (rowOf span)) = sumBy lam (fun g => decide (g.1 ≤ s)) gs := fun s h1 => by
    rw [sumBy_app, sumBy_none (xs := List.map _ _), Int.add_zero]
    intro g hg
    obtain ⟨l, h2, rfl, _⟩ := rows g hg
    have := (h.rng l h2).1
    exact decide_eq_false (by show ¬ l.1 + span ≤ s; omega)
  refine ⟨?_, ?_, ?_, ?_, ?_, ?_, ?_, ?_, ?_, ?_, ?_, ?_, ?_, ?_⟩
  · have := h.tot
    have z : total (gs ++ (ls.filter fun l => decide (l.1 + span ≤ T')).map (rowOf span)) = total gs + total ((ls.filter fun l => decide (l.1 + span ≤ T')).map (rowOf span)) := by
      unfold total
      rw [List.map_append, List.sum_append]
    omega
  · exact fun l hl => h.pos l (List.mem_filter.mp hl).1
  · intro g hg
    rcases List.mem_append.mp hg with hg | hg
    · exact h.posg g hg
    · obtain ⟨l, h1, rfl, _⟩ := rows g hg
      exact h.pos l h1
  · exact h.asc.filter _
  · refine List.pairwise_append.mpr ⟨h.ascg, List.pairwise_map.mpr ((h.asc.filter _).imp fun {a b} z => by show a.1 + span ≤ b.1 + span; omega), fun a ha b hb => ?_⟩
    obtain ⟨l, h1, rfl, _⟩ := rows b hb
    have := (h.rng l h1).1
    have := h.gle a ha
    show a.1 ≤ l.1 + span
    omega
  · intro l hl
    obtain ⟨h1, h2⟩ := List.mem_filter.mp hl
    have := (h.rng l h1).2
    exact ⟨by simpa using h2, by omega⟩
  · intro g hg
    rcases List.mem_append.mp hg with hg | hg
    · have := h.gle g hg; omega
    · obtain ⟨l, h1, rfl, h2⟩ := rows g hg
      exact h2
  · intro e he
    have := h.evs e he
    omega
  · exact fun l hl => h.src l (List.mem_filter.mp hl).1
  · intro g hg
    rcases List.mem_append.mp hg with hg | hg
    · exact h.srcg g hg
    · obtain ⟨l, h1, rfl, _⟩ := rows g hg
      obtain ⟨e, e1, e2, e3⟩ := h.src l h1
      exact ⟨e, e1, e2, by show e.2.1 + span = l.1 + span; rw [e3]⟩
  · intro c
    refine Int.le_trans ?_ (h.ab1 c)
    unfold above
    rw [sumBy_filter]
    exact sumBy_mono (fun l hl => Int.le_of_lt (h.pos l hl)) fun l _ z => (Bool.and_eq_true _ _ ▸ z).2
  · rintro c ⟨l, hl, hc⟩
    obtain ⟨h1, h2⟩ := List.mem_filter.mp hl
    have h2 : T' < l.1 + span := by simpa using h2
    rw [← h.ab2 c ⟨l, h1, hc⟩]
    unfold above
    rw [sumBy_filter]
    refine sumBy_congr fun x _ => ?_
    rw [← Bool.decide_and]
    exact decide_eq_decide.mpr (by omega)
  · intro s hs
    by_cases c : s ≤ T
    · rw [upo s c]
      exact h.v1 s c
    · have c : T < s := Int.not_le.mp c
      rw [upn s c hs, val s c hs]
      have := h.ab1 (s - span)
      omega
  · intro g hg
    rcases List.mem_append.mp hg with hg | hg
    · rw [upo g.1 (h.gle g hg)]
      exact h.v2 g hg
    · obtain ⟨l, h1, rfl, h2⟩ := rows g hg
      have h3 := (h.rng l h1).1
      show valueF log span (l.1 + span) = sumBy lam (fun x => decide (x.1 ≤ l.1 + span)) _
      rw [upn _ h3 h2, val _ h3 h2]
      have := h.ab2 l.1 ⟨l, h1, Int.le_refl _⟩
      rw [show l.1 + span - span = l.1 by omega, this]
      omega
theorem total_app (a b : List Lot) : total (a ++ b) = total a + total b := by
  unfold total
  rw [List.map_append, List.sum_append]
theorem Inv.earn {log : List Ev} {span T n : Int} {ls gs : List Lot} (i : Int) (h : Inv log span T ls gs) (s : 1 ≤ span) (hn : 0 < n) : Inv (log ++ [(true, T, n)]) span T (ls ++ [(T, n, i)]) gs := by
  have val : ∀ s, s ≤ T → valueF (log ++ [(true, T, n)]) span s = valueF log span s := fun x hx => by
    rw [valueF_sumBy, valueF_sumBy, sumBy_app, sumBy_app, sumBy_cons, sumBy_cons, sumBy_nil, sumBy_nil]
    rw [if_neg (by simp [isE]; omega), if_neg (by simp [isS])]
    omega
  have abv : ∀ c, above c (ls ++ [(T, n, i)]) = above c ls + (if c < T then n else 0) := fun c => by
    unfold above
    rw [sumBy_app, sumBy_cons, sumBy_nil, Int.add_zero]
    refine congrArg _ ?_
    simp
  have eab : ∀ c, sumBy eam (fun e => isE e && decide (c < e.2.1)) (log ++ [(true, T, n)]) = sumBy eam (fun e => isE e && decide (c < e.2.1)) log + (if c < T then n else 0) := fun c => by
    rw [sumBy_app, sumBy_cons, sumBy_nil, Int.add_zero]
    refine congrArg _ ?_
    simp [isE]
  refine ⟨?_, ?_, h.posg, ?_, h.ascg, ?_, h.gle, ?_, ?_, ?_, ?_, ?_, ?_, ?_⟩
  · rw [total_app, sumBy_app, sumBy_app, sumBy_cons, sumBy_cons, sumBy_nil, sumBy_nil, if_pos (show isE (true, T, n) = true from rfl), if_neg (by simp [isS]), total_cons, total_nil]
    have := h.tot
    show total ls + (n + 0) + total gs = _ + (n + 0) - _
    omega
  · intro l hl
    rcases List.mem_append.mp hl with hl | hl
    · exact h.pos l hl
    · rw [List.mem_singleton.mp hl]; exact hn
  · refine List.pairwise_append.mpr ⟨h.asc, List.pairwise_singleton _ _, fun a ha b hb => ?_⟩
    rw [List.mem_singleton.mp hb]
    exact (h.rng a ha).2
  · intro l hl
    rcases List.mem_append.mp hl with hl | hl
    · exact h.rng l hl
    · rw [List.mem_singleton.mp hl]; exact ⟨by dsimp only; omega, Int.le_refl _⟩
  · intro e he
    rcases List.mem_append.mp he with he | he
    · exact h.evs e he
    · rw [List.mem_singleton.mp he]; exact Int.le_refl _
  · intro l hl
    rcases List.mem_append.mp hl with hl | hl
    · obtain ⟨e, e1, e2⟩ := h.src l hl
      exact ⟨e, List.mem_append_left _ e1, e2⟩
    · rw [List.mem_singleton.mp hl]; exact ⟨(true, T, n), List.mem_append_right _ List.mem_cons_self, rfl, rfl⟩
  · intro g hg
    obtain ⟨e, e1, e2⟩ := h.srcg g hg
    exact ⟨e, List.mem_append_left _ e1, e2⟩
  · intro c
    rw [abv, eab]
    have := h.ab1 c
    omega
  · rintro c ⟨l, hl, hc⟩
    rw [abv, eab]
    rcases List.mem_append.mp hl with hl | hl
    · rw [h.ab2 c ⟨l, hl, hc⟩]
    · rw [List.mem_singleton.mp hl] at hc
      have hc : T ≤ c := hc
      have a : above c ls = 0 := sumBy_none fun x hx => decide_eq_false (by have := (h.rng x hx).2; omega)
      have b : sumBy eam (fun e => isE e && decide (c < e.2.1)) log = 0 := sumBy_none fun x hx => by
        have := h.evs x hx
        rw [decide_eq_false (by omega), Bool.and_false]
      rw [a, b]
  · intro s hs
    rw [val s hs]
    exact h.v1 s hs
  · intro g hg
    rw [val _ (h.gle g hg)]
    exact h.v2 g hg
theorem Inv.spend {log : List Ev} {span T n : Int} {ls gs : List Lot} (h : Inv log span T ls gs) (s : 1 ≤ span) (hn : 0 < n) (hs : n ≤ total ls) : Inv (log ++ [(false, T, n)]) span T (takeF ls n).1 gs := by
  have val : ∀ s, s ≤ T → valueF (log ++ [(false, T, n)]) span s = valueF log span s := fun x hx => by
    rw [valueF_sumBy, valueF_sumBy, sumBy_app, sumBy_app, sumBy_cons, sumBy_cons, sumBy_nil, sumBy_nil]
    rw [if_neg (by simp [isE]), if_neg (by simp [isS]; omega)]
    omega
  have eab : ∀ c, sumBy eam (fun e => isE e && decide (c < e.2.1)) (log ++ [(false, T, n)]) = sumBy eam (fun e => isE e && decide (c < e.2.1)) log := fun c => by
    rw [sumBy_app, sumBy_cons, sumBy_nil, Int.add_zero, if_neg (by simp [isE]), Int.add_zero]
  refine ⟨?_, takeF_pos h.pos _, h.posg, takeF_asc h.asc, h.ascg, ?_, h.gle, ?_, ?_, ?_, ?_, ?_, ?_, ?_⟩
  · rw [takeF_total h.pos (Int.le_of_lt hn) hs, sumBy_app, sumBy_app, sumBy_cons, sumBy_cons, sumBy_nil, sumBy_nil, if_neg (by simp [isE]), if_pos (show isS (false, T, n) = true from rfl)]
    have := h.tot
    show total ls - n + total gs = _ + (0 + 0) - (_ + (n + 0))
    omega
  · intro x hx
    obtain ⟨l, h1, h2, _⟩ := takeF_src x hx
    rw [← h2]
    exact h.rng l h1
  · intro e he
    rcases List.mem_append.mp he with he | he
    · exact h.evs e he
    · rw [List.mem_singleton.mp he]; exact Int.le_refl _
  · intro x hx
    obtain ⟨l, h1, h2, _⟩ := takeF_src x hx
    obtain ⟨e, e1, e2⟩ := h.src l h1
    rw [← h2]
    exact ⟨e, List.mem_append_left _ e1, e2⟩
  · intro g hg
    obtain ⟨e, e1, e2⟩ := h.srcg g hg
    exact ⟨e, List.mem_append_left _ e1, e2⟩
  · intro c
    rw [eab]
    exact Int.le_trans (takeF_above h.asc h.pos c (Int.le_of_lt hn)).1 (h.ab1 c)
  · rintro c ⟨x, hx, hc⟩
    rw [eab, (takeF_above h.asc h.pos c (Int.le_of_lt hn)).2 ⟨x, hx, hc⟩]
    obtain ⟨l, h1, h2, _⟩ := takeF_src x hx
    exact h.ab2 c ⟨l, h1, by rw [h2]; exact hc⟩
  · intro s hs
    rw [val s hs]
    exact h.v1 s hs
  · intro g hg
    rw [val _ (h.gle g hg)]
    exact h.v2 g hg
abbrev AscE (log : List Ev) : Prop := log.Pairwise fun a b => a.2.1 ≤ b.2.1
theorem runF_skip {span u : Int} : ∀ {log : List Ev} {i : Nat} {ls gs : List Lot} {ts : List Tk}, (∀ e ∈ log, u < e.2.1) → runF span u i log ls gs ts = (ls, gs, ts, none)
  | [], _, _, _, _, _ => rfl
  | e :: r, i, ls, gs, ts, h => by
    rw [runF, if_neg (Int.not_le.mpr (h e List.mem_cons_self))]
    exact runF_skip fun x hx => h x (List.mem_cons_of_mem _ hx)
theorem runF_earn {span u t n : Int} {i : Nat} {r : List Ev} {ls gs : List Lot} {ts : List Tk} (h : t ≤ u) : runF span u i ((true, t, n) :: r) ls gs ts = runF span u (i + 1) r ((lapseF span t ls).1 ++ [(t, n, (i : Int))]) (gs ++ (lapseF span t ls).2) ts := by
  rw [runF, if_pos h, if_pos rfl]
theorem runF_spend {span u t n : Int} {i : Nat} {r : List Ev} {ls gs : List Lot} {ts : List Tk} (h : t ≤ u) (c : n ≤ total (lapseF span t ls).1) : runF span u i ((false, t, n) :: r) ls gs ts = runF span u (i + 1) r (takeF (lapseF span t ls).1 n).1 (gs ++ (lapseF span t ls).2) (ts ++ [(takeF (lapseF span t ls).1 n).2]) := by
  rw [runF, if_pos h, if_neg Bool.false_ne_true, if_neg (Int.not_lt.mpr c)]
theorem runF_refuse {span u t n : Int} {i : Nat} {r : List Ev} {ls gs : List Lot} {ts : List Tk} (h : t ≤ u) (c : total (lapseF span t ls).1 < n) : runF span u i ((false, t, n) :: r) ls gs ts = ((lapseF span t ls).1, gs ++ (lapseF span t ls).2, ts, some i) := by
  rw [runF, if_pos h, if_neg Bool.false_ne_true, if_pos c]
/-- a run that refuses nothing keeps what holds -/
theorem run_inv {span u big : Int} (s : 1 ≤ span) : ∀ {log : List Ev} {i : Nat} {pre : List Ev} {T : Int} {ls gs : List Lot} {ts : List Tk}, Inv pre span T ls gs → T ≤ u → (∀ e ∈ log, T ≤ e.2.1 ∧ 0 < e.2.2 ∧ e.2.1 ≤ big) → AscE log →
    (runF span big i log ls gs ts).2.2.2 = none → (runF span u i log ls gs ts).2.2.2 = none ∧ Inv (pre ++ log.filter fun e => decide (e.2.1 ≤ u)) span u (endF span u (runF span u i log ls gs ts)).1 (endF span u (runF span u i log ls gs ts)).2.1
  | [], i, pre, T, ls, gs, ts, h, hT, _, _, _ => by
    refine ⟨rfl, ?_⟩
    rw [List.filter_nil, List.append_nil]
    exact h.later hT
  | (kd, t, n) :: r, i, pre, T, ls, gs, ts, h, hT, hev, asc, no => by
    obtain ⟨a1, a2, a3⟩ := hev _ List.mem_cons_self
    obtain ⟨b1, b2⟩ := List.pairwise_cons.mp asc
    dsimp only at a1 a2 a3 b1
    by_cases c : t ≤ u
    · have L := h.later a1
      have hev' : ∀ e ∈ r, t ≤ e.2.1 ∧ 0 < e.2.2 ∧ e.2.1 ≤ big := fun e he => by
        have z := hev e (List.mem_cons_of_mem _ he)
        exact ⟨b1 e he, z.2.1, z.2.2⟩
      have fl : pre ++ ((kd, t, n) :: r).filter (fun e => decide (e.2.1 ≤ u)) = (pre ++ [(kd, t, n)]) ++ r.filter fun e => decide (e.2.1 ≤ u) := by
        rw [List.filter_cons_of_pos (p := fun e : Ev => decide (e.2.1 ≤ u)) (a := (kd, t, n)) (decide_eq_true c), List.append_assoc]
        rfl
      rw [fl]
      cases kd with
      | true =>
        rw [runF_earn a3] at no
        rw [runF_earn c]
        exact run_inv s (L.earn i s a2) c hev' b2 no
      | false =>
        by_cases cv : n ≤ total (lapseF span t ls).1
        · rw [runF_spend a3 cv] at no
          rw [runF_spend c cv]
          exact run_inv s (L.spend s a2 cv) c hev' b2 no
        · rw [runF_refuse a3 (Int.not_le.mp cv)] at no
          cases no
    · have sk : ∀ e ∈ (kd, t, n) :: r, u < e.2.1 := fun e he => by
        rcases List.mem_cons.mp he with z | he
        · rw [z]; exact Int.not_le.mp c
        · have := b1 e he; omega
      rw [runF_skip sk, List.filter_eq_nil_iff.mpr fun e he => by have := sk e he; simp; omega, List.append_nil]
      exact ⟨rfl, h.later hT⟩
theorem lapse_split {span u t : Int} (h : u ≤ t) : ∀ {ls : List Lot}, (lapseF span t ls).2 = (lapseF span u ls).2 ++ (lapseF span t (lapseF span u ls).1).2 ∧ (lapseF span t ls).1 = (lapseF span t (lapseF span u ls).1).1
  | [] => ⟨rfl, rfl⟩
  | l :: r => by
    by_cases c : l.1 + span ≤ u
    · obtain ⟨h1, h2⟩ := lapse_split h (ls := r) (span := span)
      have e1 : lapseF span t (l :: r) = ((lapseF span t r).1, (l.1 + span, l.2.1, l.2.2) :: (lapseF span t r).2) := by rw [lapseF, if_pos (Int.le_trans c h)]
      have e2 : lapseF span u (l :: r) = ((lapseF span u r).1, (l.1 + span, l.2.1, l.2.2) :: (lapseF span u r).2) := by rw [lapseF, if_pos c]
      rw [e1, e2]
      exact ⟨by rw [h1]; rfl, h2⟩
    · have e2 : lapseF span u (l :: r) = (l :: r, []) := by rw [lapseF, if_neg c]
      rw [e2]
      exact ⟨rfl, rfl⟩
/-- to let points lapse early makes no difference -/
theorem end_lapse {span u v : Int} (huv : u ≤ v) : ∀ {log : List Ev} {i : Nat} {ls gs : List Lot} {ts : List Tk}, (∀ e ∈ log, u ≤ e.2.1) →
    endF span v (runF span v i log ls gs ts) = endF span v (runF span v i log (lapseF span u ls).1 (gs ++ (lapseF span u ls).2) ts)
  | [], i, ls, gs, ts, _ => by
    obtain ⟨h1, h2⟩ := lapse_split huv (ls := ls) (span := span)
    show ((lapseF span v ls).1, gs ++ (lapseF span v ls).2, ts, none) = ((lapseF span v (lapseF span u ls).1).1, gs ++ (lapseF span u ls).2 ++ (lapseF span v (lapseF span u ls).1).2, ts, none)
    rw [h1, h2, List.append_assoc]
  | (kd, t, n) :: r, i, ls, gs, ts, h => by
    have ht : u ≤ t := h _ List.mem_cons_self
    obtain ⟨h1, h2⟩ := lapse_split ht (ls := ls) (span := span)
    by_cases c : t ≤ v
    · rw [runF, if_pos c, runF, if_pos c]
      dsimp only
      rw [h1, h2, List.append_assoc]
    · rw [runF, if_neg c, runF, if_neg c]
      exact end_lapse huv fun e he => h e (List.mem_cons_of_mem _ he)
theorem lapseF_rows {span t : Int} : ∀ {ls : List Lot}, ∀ x ∈ (lapseF span t ls).2, ∃ l ∈ ls, x = rowOf span l
  | [], x, hx => (List.not_mem_nil hx).elim
  | l :: r, x, hx => by
    rw [lapseF] at hx
    split at hx
    · rcases List.mem_cons.mp hx with e | hx
      · exact ⟨l, List.mem_cons_self, e⟩
      · obtain ⟨y, h1, h2⟩ := lapseF_rows x hx
        exact ⟨y, List.mem_cons_of_mem _ h1, h2⟩
    · exact (List.not_mem_nil hx).elim
theorem lapseF_late {span u t : Int} {ls : List Lot} (h : ∀ l ∈ ls, u < l.1 + span) : ∀ x ∈ (lapseF span t ls).2, u < x.1 := fun x hx => by
  obtain ⟨l, h1, rfl⟩ := lapseF_rows x hx
  exact h l h1
theorem lapseF_keep {span t : Int} : ∀ {ls : List Lot}, Asc ls → ∀ l ∈ (lapseF span t ls).1, t < l.1 + span := fun {ls} a l hl => by
  rw [lapseF_asc a] at hl
  simpa using (List.mem_filter.mp hl).2
theorem run_late {span u v : Int} (s : 1 ≤ span) : ∀ {log : List Ev} {i : Nat} {ls gs : List Lot} {ts : List Tk}, (∀ l ∈ ls, u < l.1 + span) → (∀ e ∈ log, u < e.2.1) →
    ∃ X, (endF span v (runF span v i log ls gs ts)).2.1 = gs ++ X ∧ ∀ x ∈ X, u < x.1
  | [], i, ls, gs, ts, h, _ => ⟨_, rfl, lapseF_late h⟩
  | (kd, t, n) :: r, i, ls, gs, ts, h, he => by
    have ht : u < t := he _ List.mem_cons_self
    have he' : ∀ e ∈ r, u < e.2.1 := fun e z => he e (List.mem_cons_of_mem _ z)
    have hl : ∀ l ∈ (lapseF span t ls).1, u < l.1 + span := fun l z => h l (lapseF_mem span t ls l z)
    by_cases c : t ≤ v
    · cases kd with
      | true =>
        rw [runF_earn c]
        obtain ⟨X, h1, h2⟩ := run_late s (v := v) (i := i + 1) (ls := (lapseF span t ls).1 ++ [(t, n, (i : Int))]) (gs := gs ++ (lapseF span t ls).2) (ts := ts) (fun l z => by
          rcases List.mem_append.mp z with z | z
          · exact hl l z
          · rw [List.mem_singleton.mp z]; dsimp only; omega) he'
        refine ⟨(lapseF span t ls).2 ++ X, by rw [h1, List.append_assoc], fun x z => ?_⟩
        rcases List.mem_append.mp z with z | z
        · exact lapseF_late h x z
        · exact h2 x z
      | false =>
        by_cases cv : n ≤ total (lapseF span t ls).1
        · rw [runF_spend c cv]
          obtain ⟨X, h1, h2⟩ := run_late s (v := v) (i := i + 1) (ls := (takeF (lapseF span t ls).1 n).1) (gs := gs ++ (lapseF span t ls).2) (ts := ts ++ [(takeF (lapseF span t ls).1 n).2]) (fun l z => by
            obtain ⟨y, y1, y2, _⟩ := takeF_src l z
            rw [← y2]
            exact hl y y1) he'
          refine ⟨(lapseF span t ls).2 ++ X, by rw [h1, List.append_assoc], fun x z => ?_⟩
          rcases List.mem_append.mp z with z | z
          · exact lapseF_late h x z
          · exact h2 x z
        · rw [runF_refuse c (Int.not_le.mp cv)]
          exact ⟨_, rfl, lapseF_late h⟩
    · rw [runF, if_neg c]
      exact run_late s h he'
/-- what has lapsed by a moment is what has lapsed by a later one, up to that moment -/
theorem run_rows {span u v : Int} (s : 1 ≤ span) (huv : u ≤ v) : ∀ {log : List Ev} {i : Nat} {ls gs : List Lot} {ts : List Tk}, Asc ls → (∀ l ∈ ls, ∀ e ∈ log, l.1 ≤ e.2.1) → AscE log → (runF span v i log ls gs ts).2.2.2 = none →
    ∃ X, (endF span v (runF span v i log ls gs ts)).2.1 = (endF span u (runF span u i log ls gs ts)).2.1 ++ X ∧ ∀ x ∈ X, u < x.1
  | [], i, ls, gs, ts, a, _, _, _ => by
    obtain ⟨h1, h2⟩ := lapse_split huv (ls := ls) (span := span)
    refine ⟨(lapseF span v (lapseF span u ls).1).2, ?_, lapseF_late (lapseF_keep a)⟩
    show gs ++ (lapseF span v ls).2 = gs ++ (lapseF span u ls).2 ++ _
    rw [h1, List.append_assoc]
  | (kd, t, n) :: r, i, ls, gs, ts, a, hl, asc, no => by
    obtain ⟨b1, b2⟩ := List.pairwise_cons.mp asc
    dsimp only at b1
    have lt : ∀ l ∈ (lapseF span t ls).1, l.1 ≤ t := fun l z => hl l (lapseF_mem span t ls l z) _ List.mem_cons_self
    have aL : Asc (lapseF span t ls).1 := by rw [lapseF_asc a]; exact a.filter _
    by_cases c : t ≤ u
    · have c' : t ≤ v := Int.le_trans c huv
      cases kd with
      | true =>
        rw [runF_earn c'] at no
        rw [runF_earn c, runF_earn c']
        refine run_rows s huv (List.pairwise_append.mpr ⟨aL, List.pairwise_singleton _ _, fun x hx y hy => ?_⟩) (fun l z e he => ?_) b2 no
        · rw [List.mem_singleton.mp hy]; exact lt x hx
        · rcases List.mem_append.mp z with z | z
          · exact Int.le_trans (lt l z) (b1 e he)
          · rw [List.mem_singleton.mp z]; exact b1 e he
      | false =>
        by_cases cv : n ≤ total (lapseF span t ls).1
        · rw [runF_spend c' cv] at no
          rw [runF_spend c cv, runF_spend c' cv]
          refine run_rows s huv (takeF_asc aL) (fun l z e he => ?_) b2 no
          obtain ⟨y, y1, y2, _⟩ := takeF_src l z
          rw [← y2]
          exact Int.le_trans (lt y y1) (b1 e he)
        · rw [runF_refuse c' (Int.not_le.mp cv)] at no
          cases no
    · have sk : ∀ e ∈ (kd, t, n) :: r, u < e.2.1 := fun e he => by
        rcases List.mem_cons.mp he with z | he
        · rw [z]; exact Int.not_le.mp c
        · have := b1 e he; omega
      rw [end_lapse huv (u := u) fun e he => Int.le_of_lt (sk e he), runF_skip (u := u) sk]
      exact run_late s (lapseF_keep a) sk
abbrev am2 (r : Int × Int) : Int := r.2
structure MI (acc done : List (Int × Int)) : Prop where
  asc : acc.Pairwise fun a b => a.1 < b.1
  mem : ∀ m, (∃ r ∈ acc, r.1 = m) ↔ ∃ r ∈ done, r.1 = m
  sum : ∀ m, sumBy am2 (fun r => decide (r.1 = m)) acc = sumBy am2 (fun r => decide (r.1 = m)) done
theorem MI.step {acc done : List (Int × Int)} {r : Int × Int} (h : MI acc done) (ha : ∀ x ∈ done, x.1 ≤ r.1) : MI (mergeS acc r) (done ++ [r]) := by
  have memapp : ∀ (xs : List (Int × Int)) m, (∃ x ∈ xs ++ [r], x.1 = m) ↔ (∃ x ∈ xs, x.1 = m) ∨ r.1 = m := fun xs m => by
    constructor
    · rintro ⟨x, hx, e⟩
      rcases List.mem_append.mp hx with hx | hx
      · exact .inl ⟨x, hx, e⟩
      · rw [List.mem_singleton.mp hx] at e; exact .inr e
    · rintro (⟨x, hx, e⟩ | e)
      · exact ⟨x, List.mem_append_left _ hx, e⟩
      · exact ⟨r, List.mem_append_right _ List.mem_cons_self, e⟩
  unfold mergeS
  split
  · rename_i e
    have e : acc = [] := List.getLast?_eq_none_iff.mp e
    subst e
    refine ⟨by simp, fun m => ?_, fun m => ?_⟩
    · rw [memapp, memapp, h.mem]
    · rw [sumBy_app, sumBy_app, h.sum]
  · rename_i l e
    obtain ⟨ys, rfl⟩ := List.getLast?_eq_some_iff.mp e
    obtain ⟨p1, p2, p3⟩ := List.pairwise_append.mp h.asc
    have hl : l.1 ≤ r.1 := by
      obtain ⟨x, hx, z⟩ := (h.mem l.1).mp ⟨l, List.mem_append_right _ List.mem_cons_self, rfl⟩
      rw [← z]
      exact ha x hx
    split
    · rename_i c
      rw [List.dropLast_concat]
      refine ⟨List.pairwise_append.mpr ⟨p1, List.pairwise_singleton _ _, fun x hx y hy => ?_⟩, fun m => ?_, fun m => ?_⟩
      · rw [List.mem_singleton.mp hy]
        have := p3 x hx l List.mem_cons_self
        dsimp only
        omega
      · have z := h.mem m
        rw [memapp, ← z]
        constructor
        · rintro ⟨x, hx, e⟩
          rcases List.mem_append.mp hx with hx | hx
          · exact .inl ⟨x, List.mem_append_left _ hx, e⟩
          · rw [List.mem_singleton.mp hx] at e; exact .inr e
        · rintro (⟨x, hx, e⟩ | e)
          · rcases List.mem_append.mp hx with hx | hx
            · exact ⟨x, List.mem_append_left _ hx, e⟩
            · rw [List.mem_singleton.mp hx] at e
              exact ⟨(r.1, l.2 + r.2), List.mem_append_right _ List.mem_cons_self, by dsimp only; omega⟩
          · exact ⟨(r.1, l.2 + r.2), List.mem_append_right _ List.mem_cons_self, e⟩
      · rw [sumBy_app done, ← h.sum, sumBy_app, sumBy_app, sumBy_cons, sumBy_cons, sumBy_cons, sumBy_nil]
        dsimp only [am2]
        rw [c]
        split <;> omega
    · rename_i c
      refine ⟨List.pairwise_append.mpr ⟨h.asc, List.pairwise_singleton _ _, fun x hx y hy => ?_⟩, fun m => ?_, fun m => ?_⟩
      · rw [List.mem_singleton.mp hy]
        rcases List.mem_append.mp hx with hx | hx
        · have := p3 x hx l List.mem_cons_self
          omega
        · rw [List.mem_singleton.mp hx]; omega
      · rw [memapp, memapp, h.mem]
      · rw [sumBy_app, sumBy_app done, h.sum]
theorem merge_inv : ∀ {rows acc done : List (Int × Int)}, MI acc done → (done ++ rows).Pairwise (fun a b => a.1 ≤ b.1) → MI (rows.foldl mergeS acc) (done ++ rows)
  | [], acc, done, h, _ => by rw [List.append_nil]; exact h
  | r :: rs, acc, done, h, a => by
    have e : done ++ r :: rs = (done ++ [r]) ++ rs := by rw [List.append_assoc]; rfl
    rw [e] at a ⊢
    have := (List.pairwise_append.mp (List.pairwise_append.mp a).1).2.2
    exact merge_inv (h.step fun x hx => this x hx r List.mem_cons_self) a
theorem mergeF_MI {rows : List (Int × Int)} (a : rows.Pairwise (fun a b => a.1 ≤ b.1)) : MI (mergeF rows) rows :=
  merge_inv (acc := []) (done := []) ⟨.nil, fun _ => Iff.rfl, fun _ => rfl⟩ a
theorem ascE_of_ord : ∀ {log : List Ev}, OrdEv log → AscE log
  | [], _ => .nil
  | [_], _ => List.pairwise_singleton _ _
  | a :: b :: r, h => by
    have ih : AscE (b :: r) := ascE_of_ord fun p hp => h p (by
      show p ∈ (a, b) :: (b :: r).zip r
      exact List.mem_cons_of_mem _ hp)
    have hab : a.2.1 ≤ b.2.1 := h (a, b) (by show _ ∈ (a, b) :: (b :: r).zip r; exact List.mem_cons_self)
    refine List.pairwise_cons.mpr ⟨fun x hx => ?_, ih⟩
    rcases List.mem_cons.mp hx with e | hx
    · rw [e]; exact hab
    · exact Int.le_trans hab ((List.pairwise_cons.mp ih).1 x hx)
theorem ord_of_ascE : ∀ {log : List Ev}, AscE log → OrdEv log
  | [], _ => fun _ hp => (List.not_mem_nil hp).elim
  | [_], _ => fun _ hp => (List.not_mem_nil hp).elim
  | a :: b :: r, h => fun p hp => by
    obtain ⟨h1, h2⟩ := List.pairwise_cons.mp h
    have hp : p ∈ (a, b) :: (b :: r).zip r := hp
    rcases List.mem_cons.mp hp with e | hp
    · rw [e]; exact h1 b List.mem_cons_self
    · exact ord_of_ascE h2 p hp
abbrev pr (l : Lot) : Int × Int := (l.1, l.2.1)
abbrev posP (l : Int × Int) : Bool := decide (0 < l.2)
theorem spendK_none {k : Str} (h : k ≠ "spend") : ∀ (ls : List (Int × Int)) (n : Int), spendK k ls n = ls
  | [], _ => rfl
  | l :: r, n => by
    have z : partK k l.2 n = 0 := by unfold partK; rw [if_neg (by simpa using h)]
    rw [spendK, z, spendK_none h r]
    simp
theorem spendK_take : ∀ {ls : List Lot} {n : Int}, PosL ls → 0 ≤ n → (spendK "spend" (ls.map pr) n).filter posP = (takeF ls n).1.map pr
  | [], _, _, _ => rfl
  | l :: r, n, p, hn => by
    have hl := p l List.mem_cons_self
    rw [List.map_cons, spendK, takeF]
    have z : partK "spend" (pr l).2 n = if n < l.2.1 then n else l.2.1 := by unfold partK; rw [if_pos (by decide)]
    rw [z]
    by_cases c : 0 < n
    · rw [if_pos c]
      by_cases d : l.2.1 ≤ n
      · rw [if_pos d, if_neg (by omega), List.filter_cons_of_neg (by simp), spendK_take p.tail (by omega)]
      · rw [if_neg d, if_pos (by omega), List.filter_cons_of_pos (by simp; omega), Int.sub_self, spendK_take p.tail (Int.le_refl _)]
        cases r with
        | nil => rfl
        | cons x y => rw [takeF, if_neg (by decide)]; rfl
    · have c0 : n = 0 := by omega
      subst c0
      rw [if_neg c, if_pos hl, List.filter_cons_of_pos (by simp; omega), spendK_take p.tail (by omega)]
      cases r with
      | nil => rw [takeF]; simp
      | cons x y => rw [takeF, if_neg (by decide)]; simp
theorem pos_filter {ls : List Lot} (p : PosL ls) : (ls.map pr).filter posP = ls.map pr := List.filter_eq_self.mpr fun x hx => by
  obtain ⟨l, hl, rfl⟩ := List.mem_map.mp hx
  exact decide_eq_true (p l hl)
theorem keep_lapse {span t : Int} {ls : List Lot} {os : List (Int × Int)} (a : Asc ls) (h : os.filter posP = ls.map pr) : keepK span t os = (lapseF span t ls).1.map pr := by
  rw [lapseF_asc a]
  unfold keepK
  have z : os.filter (fun l => decide (t < l.1 + span) && decide (0 < l.2)) = (os.filter posP).filter fun l => decide (t < l.1 + span) := by rw [List.filter_filter]
  rw [z, h, List.filter_map]
  rfl
theorem gone_lapse {span t : Int} {ls : List Lot} {os : List (Int × Int)} (a : Asc ls) (h : os.filter posP = ls.map pr) : goneK span t os = (lapseF span t ls).2.map pr := by
  rw [lapseF_asc a]
  unfold goneK
  have z : os.filter (fun l => decide (l.1 + span ≤ t) && decide (0 < l.2)) = (os.filter posP).filter fun l => decide (l.1 + span ≤ t) := by rw [List.filter_filter]
  rw [z, h, List.filter_map, List.map_map, List.map_map]
  rfl
theorem lapse_pos {span t : Int} {ls : List Lot} (p : PosL ls) : PosL (lapseF span t ls).1 := fun x hx => p x (lapseF_mem span t ls x hx)
theorem total_pr (ls : List Lot) : ((ls.map pr).map fun l => l.2).sum = total ls := by rw [List.map_map]; rfl
theorem oRun_play {span til : Int} : ∀ {log : List Ev} {i : Nat} {ls gs : List Lot} {ts : List Tk} {os : List (Int × Int)}, Asc ls → PosL ls → (∀ l ∈ ls, ∀ e ∈ log, l.1 ≤ e.2.1) → AscE log → PosEv log → os.filter posP = ls.map pr →
    oRun span til i (log.map kOf ++ [(("stop" : Str), til, 0)]) os (gs.map pr) = ((endF span til (runF span til i log ls gs ts)).1.map pr, (endF span til (runF span til i log ls gs ts)).2.1.map pr, (endF span til (runF span til i log ls gs ts)).2.2.2)
  | [], i, ls, gs, ts, os, a, p, _, _, _, h => by
    rw [List.map_nil, List.nil_append, oRun, if_pos (Int.le_refl _), if_neg (by show ¬ ("stop" : Str) = "earn"; decide), keep_lapse a h, gone_lapse a h, total_pr, if_neg (by have := (lapse_pos (span := span) (t := til) p).total; dsimp only; omega), oRun, spendK_none (by show ("stop" : Str) ≠ "spend"; decide)]
    rw [pos_filter (lapse_pos p), ← List.map_append]
    rfl
  | (kd, t, n) :: r, i, ls, gs, ts, os, a, p, hl, asc, pe, h => by
    obtain ⟨b1, b2⟩ := List.pairwise_cons.mp asc
    dsimp only at b1
    have hn : 0 < n := pe _ List.mem_cons_self
    have pe' : PosEv r := fun e he => pe e (List.mem_cons_of_mem _ he)
    have lt : ∀ l ∈ (lapseF span t ls).1, l.1 ≤ t := fun l z => hl l (lapseF_mem span t ls l z) _ List.mem_cons_self
    have aL : Asc (lapseF span t ls).1 := by rw [lapseF_asc a]; exact a.filter _
    rw [List.map_cons, List.cons_append, oRun]
    show (if t ≤ til then _ else _) = _
    by_cases c : t ≤ til
    · rw [if_pos c]
      dsimp only
      rw [keep_lapse a h, gone_lapse a h, total_pr, ← List.map_append]
      cases kd with
      | true =>
        rw [if_pos (by rfl), runF_earn c, spendK_none (by show kW true ≠ _; decide)]
        refine oRun_play (List.pairwise_append.mpr ⟨aL, List.pairwise_singleton _ _, fun x hx y hy => ?_⟩) (fun l z => ?_) (fun l z e he => ?_) b2 pe' ?_
        · rw [List.mem_singleton.mp hy]; exact lt x hx
        · rcases List.mem_append.mp z with z | z
          · exact lapse_pos p l z
          · rw [List.mem_singleton.mp z]; exact hn
        · rcases List.mem_append.mp z with z | z
          · exact Int.le_trans (lt l z) (b1 e he)
          · rw [List.mem_singleton.mp z]; exact b1 e he
        · rw [List.filter_append, pos_filter (lapse_pos p), List.filter_cons_of_pos (by simpa using hn), List.map_append]
          rfl
      | false =>
        rw [if_neg (by show ¬ kW false = _; decide)]
        by_cases cv : n ≤ total (lapseF span t ls).1
        · rw [if_neg (Int.not_lt.mpr cv), runF_spend c cv]
          refine oRun_play (takeF_asc aL) (takeF_pos (lapse_pos p) _) (fun l z e he => ?_) b2 pe' ?_
          · obtain ⟨y, y1, y2, _⟩ := takeF_src l z
            rw [← y2]
            exact Int.le_trans (lt y y1) (b1 e he)
          · exact spendK_take (lapse_pos p) (Int.le_of_lt hn)
        · rw [if_pos (Int.not_le.mp cv), runF_refuse c (Int.not_le.mp cv)]
          rfl
    · rw [if_neg c, runF, if_neg c]
      exact oRun_play a p (fun l z e he => hl l z e (List.mem_cons_of_mem _ he)) b2 pe' h
theorem lotsF_play {log : List Ev} {span til : Int} (a : AscE log) (p : PosEv log) : lotsF log span til = ((playF span til log).1.map pr, (playF span til log).2.1.map pr, (playF span til log).2.2.2) :=
  oRun_play (ls := []) (gs := []) (ts := []) .nil (fun _ h => (List.not_mem_nil h).elim) (fun _ h => (List.not_mem_nil h).elim) a p rfl
theorem sumK_pr (ls : List Lot) : sumK (ls.map pr) = total ls := total_pr ls
theorem play_inv {log : List Ev} {span u : Int} (s : 1 ≤ span) (u0 : 0 ≤ u) (a : AscE log) (p : ∀ e ∈ log, PosE e) (no : (playF span 10000 log).2.2.2 = none) :
    (playF span u log).2.2.2 = none ∧ Inv (log.filter fun e => decide (e.2.1 ≤ u)) span u (playF span u log).1 (playF span u log).2.1 := by
  have no' : (runF span 10000 0 log [] [] []).2.2.2 = none := by
    unfold playF endF at no
    split at no
    · exact no
    · rename_i h; exact h
  obtain ⟨h1, h2⟩ := run_inv s (u := u) (inv_nil span 0) u0 (fun e he => ⟨(p e he).1, by have := (p e he).2.2.1; omega, (p e he).2.1⟩) a no'
  refine ⟨?_, h2⟩
  unfold playF endF
  rw [h1]
theorem play_no {log : List Ev} {span u : Int} (no : (playF span u log).2.2.2 = none) : (runF span u 0 log [] [] []).2.2.2 = none := by
  unfold playF endF at no
  split at no
  · exact no
  · rename_i h; exact h
theorem play_rows {log : List Ev} {span u v : Int} (s : 1 ≤ span) (huv : u ≤ v) (a : AscE log) (no : (playF span v log).2.2.2 = none) : ∃ X, (playF span v log).2.1 = (playF span u log).2.1 ++ X ∧ ∀ x ∈ X, u < x.1 :=
  run_rows s huv .nil (fun _ h => (List.not_mem_nil h).elim) a (play_no no)
theorem runF_app {span u : Int} : ∀ {a b : List Ev} {i : Nat} {ls gs : List Lot} {ts : List Tk}, (runF span u i a ls gs ts).2.2.2 = none →
    runF span u i (a ++ b) ls gs ts = runF span u (i + a.length) b (runF span u i a ls gs ts).1 (runF span u i a ls gs ts).2.1 (runF span u i a ls gs ts).2.2.1
  | [], _, _, _, _, _, _ => rfl
  | (kd, t, n) :: r, b, i, ls, gs, ts, no => by
    have e : i + ((kd, t, n) :: r).length = i + 1 + r.length := by rw [List.length_cons]; omega
    rw [e, List.cons_append]
    by_cases c : t ≤ u
    · cases kd with
      | true =>
        rw [runF_earn c] at no
        rw [runF_earn c, runF_earn c]
        exact runF_app no
      | false =>
        by_cases cv : n ≤ total (lapseF span t ls).1
        · rw [runF_spend c cv] at no
          rw [runF_spend c cv, runF_spend c cv]
          exact runF_app no
        · rw [runF_refuse c (Int.not_le.mp cv)] at no
          cases no
    · rw [runF, if_neg c] at no
      have e1 : ∀ r', runF span u i ((kd, t, n) :: r') ls gs ts = runF span u (i + 1) r' ls gs ts := fun r' => by rw [runF, if_neg c]
      rw [e1, e1]
      exact runF_app no
/-- a run does not see what comes behind the last event -/
theorem runF_til {span u v : Int} : ∀ {log : List Ev} {i : Nat} {ls gs : List Lot} {ts : List Tk}, (∀ e ∈ log, e.2.1 ≤ u ∧ e.2.1 ≤ v) → runF span u i log ls gs ts = runF span v i log ls gs ts
  | [], _, _, _, _, _ => rfl
  | (kd, t, n) :: r, i, ls, gs, ts, h => by
    obtain ⟨h1, h2⟩ := h _ List.mem_cons_self
    dsimp only at h1 h2
    have h' : ∀ e ∈ r, e.2.1 ≤ u ∧ e.2.1 ≤ v := fun e he => h e (List.mem_cons_of_mem _ he)
    rw [runF, if_pos h1, runF, if_pos h2]
    dsimp only
    rw [runF_til (u := u) (v := v) h', runF_til (u := u) (v := v) h']
theorem Gd.later {log : List Ev} {span t t' : Int} (h : Gd log span t) (l : t ≤ t') : Gd log span t' := ⟨fun e he => ⟨(h.ev e he).1, Int.le_trans (h.ev e he).2 l⟩, h.ord, h.no⟩
theorem Gd.asc {log : List Ev} {span t : Int} (h : Gd log span t) : AscE log := ascE_of_ord h.ord
theorem Gd.pos {log : List Ev} {span t : Int} (h : Gd log span t) : PosEv log := fun e he => by have := (h.ev e he).1.2.2.1; omega
theorem Gd.inv {log : List Ev} {span t u : Int} (h : Gd log span t) (s : 1 ≤ span) (u0 : 0 ≤ u) : (playF span u log).2.2.2 = none ∧ Inv (log.filter fun e => decide (e.2.1 ≤ u)) span u (playF span u log).1 (playF span u log).2.1 :=
  play_inv s u0 h.asc (fun e he => (h.ev e he).1) h.no
theorem Gd.snoc {log : List Ev} {span t : Int} {e : Ev} (h : Gd log span t) (pe : PosE e) (et : e.2.1 = t) (no : (playF span 10000 (log ++ [e])).2.2.2 = none) : Gd (log ++ [e]) span t := by
  refine ⟨fun x hx => ?_, ord_of_ascE (List.pairwise_append.mpr ⟨h.asc, List.pairwise_singleton _ _, fun x hx y hy => ?_⟩), no⟩
  · rcases List.mem_append.mp hx with hx | hx
    · exact h.ev x hx
    · rw [List.mem_singleton.mp hx]; exact ⟨pe, by omega⟩
  · rw [List.mem_singleton.mp hy, et]
    exact (h.ev x hx).2
theorem endF_no {span u : Int} {r : Pl} : (endF span u r).2.2.2 = r.2.2.2 := by
  unfold endF
  split
  · rfl
  · rename_i e; exact e.symm
theorem Gd.earn {log : List Ev} {span t n : Int} (h : Gd log span t) (t0 : 0 ≤ t) (t1 : t ≤ 10000) (n0 : 1 ≤ n) (n1 : n ≤ 1000000) (s : 1 ≤ span) : Gd (log ++ [(true, t, n)]) span t := by
  refine h.snoc ⟨t0, t1, n0, n1⟩ rfl ?_
  rw [playF, endF_no, runF_app (play_no h.no), runF_earn t1]
  rfl
theorem Gd.spend {log : List Ev} {span t n : Int} (h : Gd log span t) (t0 : 0 ≤ t) (t1 : t ≤ 10000) (n0 : 1 ≤ n) (n1 : n ≤ 1000000) (s : 1 ≤ span) (hs : n ≤ sumK (lotsF log span t).1) : Gd (log ++ [(false, t, n)]) span t := by
  refine h.snoc ⟨t0, t1, n0, n1⟩ rfl ?_
  rw [lotsF_play h.asc h.pos] at hs
  dsimp only at hs
  rw [sumK_pr] at hs
  have e : runF span t 0 log [] [] [] = runF span 10000 0 log [] [] [] := runF_til fun e he => ⟨(h.ev e he).2, (h.ev e he).1.2.1⟩
  have hs' : n ≤ total (lapseF span t (runF span 10000 0 log [] [] []).1).1 := by
    rw [← e]
    have z : (runF span t 0 log [] [] []).2.2.2 = none := by rw [e]; exact play_no h.no
    unfold playF endF at hs
    rw [z] at hs
    exact hs
  rw [playF, endF_no, runF_app (play_no h.no), runF_spend t1 hs']
  rfl
theorem goneBy_total (log : List Ev) (span u : Int) : goneBy log span u = total (playF span u log).2.1 := rfl
theorem asc_pr {gs : List Lot} (a : Asc gs) : (gs.map fun l : Lot => (l.1, l.2.1)).Pairwise fun a b => a.1 ≤ b.1 := List.pairwise_map.mpr a
def moreF (log : List Ev) (i : Nat) (m : Int) : List Ev := match log[i]? with
  | some e => log.take i ++ (e.1, e.2.1, e.2.2 + m) :: log.drop (i + 1)
  | none => log
theorem moreF_at {log : List Ev} {i : Nat} {m : Int} {e : Ev} (h : log[i]? = some e) : moreF log i m = log.take i ++ (e.1, e.2.1, e.2.2 + m) :: log.drop (i + 1) := by
  unfold moreF
  rw [h]
theorem moreF_len {log : List Ev} {i : Nat} {m : Int} : (moreF log i m).length = log.length := by
  cases h : log[i]? with
  | none => unfold moreF; rw [h]
  | some e =>
    have hi := (List.getElem?_eq_some_iff.mp h).1
    rw [moreF_at h, List.length_append, List.length_cons, List.length_take, List.length_drop]
    omega
theorem map_more {log : List Ev} {i : Nat} {m : Int} {e : Ev} (h : log[i]? = some e) : cutD (log.map eEv) none (some (i : Int)) ++ [eEv (e.1, e.2.1, e.2.2 + m)] ++ cutD (log.map eEv) (some ((i + 1 : Nat) : Int)) none = (moreF log i m).map eEv := by
  have hi := (List.getElem?_eq_some_iff.mp h).1
  rw [cut_to, cut_from, moreF_at h, List.map_append, List.map_cons, List.map_take, List.map_drop, List.append_assoc]
  rfl
def spWithMore : DSp := fun ds O Φ _ => ∃ (log : List Ev) (i : Nat) (m : Int) (e : Ev), ds = [.tup (log.map eEv), .int i, .int m] ∧ log[i]? = some e ∧ log.length ≤ 100 ∧ Φ (.tup ((moreF log i m).map eEv)) O
abbrev nWithMore : List Str := ["log", "index", "more", "kind", "time", "amount"]
theorem sc_withmore : FnScope nWithMore ["log", "index", "more"] (defScope (topS 51)) := ⟨rfl, rfl, rfl, by decide +kernel, rfl, by decide +kernel, by decide +kernel⟩
theorem atE {log : List Ev} {i : Nat} {e : Ev} (h : log[i]? = some e) : atI (log.map eEv) (i : Int) = some (eEv e) := atN (by rw [List.getElem?_map, h]; rfl)
theorem ok_withmore {M : Mach} {f : Addr} {fd : FuncData} {k : Nat} (F : Fun M.K "with_more" "with_more" (topS 51) f fd) :
    FnOk M.P M.w M.K M.mg M.base (L2N.CX M.P M.w) (k + 1) f fd ["log", "index", "more"] (liftSp M.K spWithMore) := by
  refine fn_body (N := nWithMore) (vn := nWithMore) (gl := []) F sc_withmore (by decide +kernel) (fun ds O Φ Ψ h => ?_) fun X B ds O Φ Ψ bd h => ?_
  · obtain ⟨_, _, _, _, rfl, _⟩ := h
    rfl
  obtain ⟨log, i, m, ⟨kd, t, n⟩, rfl, he, hlen, q⟩ := h
  have C := bd.C
  have hi := (List.getElem?_eq_some_iff.mp he).1
  have hat := atE he
  change WSs _ _ [some _, some _, some _, none, none, none] _ _ _
  refine wss_cons (ws_asg (vs := fun _ => True) (we_pv (pv_ix (by exists "ev") (by exists "ev") .tup hat) ?_))
  exists "t3"
  exists "nx"
  refine wss_one (ws_ret (we_pv (PEv.to (pv_catT (pv_catT (pv_sliceT (by exists "ev") .none (.some (by exists "ev"))) (by exists "ev") ?_) (pv_sliceT (by exists "ev") (.some (PEv.to (by exists "ev") (by rfl))) .none) ?_) (congrArg D.tup (map_more he))) q))
  · rw [cut_to, List.length_take, List.length_map]
    show min i log.length + 1 ≤ 1000000
    omega
  · rw [cut_to, cut_from, List.length_append, List.length_take, List.length_drop, List.length_map]
    show min i log.length + 1 + (log.length - (i + 1)) ≤ 1000000
    omega
abbrev nNeedK : List Str := ["log", "index", "kind"]
theorem sc_needkind : FnScope nNeedK nNeedK (defScope (topS 52)) := ⟨rfl, rfl, rfl, by decide +kernel, rfl, by decide +kernel, by decide +kernel⟩
def spLapsesW : DSp := fun ds O Φ _ => ∃ (log : List Ev) (life : Int), ds = [.tup (log.map eEv), .int life] ∧ PosEv log ∧ log.length ≤ 100 ∧ Φ (.lst ((lapsesF log life).map ePr)) O
theorem ok_alllapsesw {M : Mach} {f : Addr} {fd : FuncData} {k : Nat} (F : Fun M.K "all_lapses" "all_lapses" (topS 38) f fd) (h1 : ∃ t, M.mg "LAST_MOMENT" = some (.int 12000 t)) (g : GFn M "play" k spPlay) (g2 : GFn M "merged" k spMerged) :
    FnOk M.P M.w M.K M.mg M.base (L2N.CX M.P M.w) (k + 1) f fd ["log", "life"] (liftSp M.K spLapsesW) := by
  refine fn_body (N := ["log", "life", "row"]) (vn := ["log", "life"]) (gl := ["LAST_MOMENT", "play", "merged"]) F sc_alllapses (by decide +kernel) (fun ds O Φ Ψ h => ?_) fun X B ds O Φ Ψ bd h => ?_
  · obtain ⟨_, _, rfl, _⟩ := h
    rfl
  obtain ⟨log, life, rfl, ok, hl, q⟩ := h
  have C := bd.C
  have hp := playF_len life 12000 log
  change WSs _ _ [some _, some _, none] _ _ _
  refine wss_one (ws_ret (we_pv (pv_call' (v := .lst ((lapsesF log life).map ePr)) C g2 bd.r (by decide +kernel) (pa_consv (pv_frz (pn_lcA (own := [("row", 2)]) (xs := (playF life 12000 log).2.1) (enc := eLot) (f := fun l : Lot => ePr (l.1, l.2.1)) C (by decide +kernel) (wiv_lst (pv_ix (pv_call' C g bd.r (by decide +kernel) (by exists "ea") fun Φ Ψ z => ⟨log, life, 12000, rfl, rfl, ok, hl, z⟩) pv_int .tup at1)) (fun p hp => (List.not_mem_nil hp).elim) (by omega) fun l hl => ⟨fun X' B' b => ?_⟩)) pa_nilv) fun Φ Ψ z => ⟨(playF life 12000 log).2.1.map fun l : Lot => (l.1, l.2.1), by rw [List.map_map]; rfl, rfl, by rw [List.length_map]; omega, z⟩) q))
  have C' := b.C
  exists "wp"
  refine wg_name C' (by exists "sa") (by decide +kernel) (by decide) ⟨rfl, fun X2 b2 => wf_nil ⟨rfl, rfl⟩, fun _ X3 b3 => ?_⟩
  have C3 := b3.C
  exists "ev"
def goF (one other : List (Int × Int)) : List Int → Int → Option Int
  | [], _ => none
  | k :: r, tot => if 0 < tot + ((getI one k).getD 0 - (getI other k).getD 0) then some k else goF one other r (tot + ((getI one k).getD 0 - (getI other k).getD 0))
def KeysOf (one other : List (Int × Int)) (ks : List Int) : Prop := ks.Pairwise (· < ·) ∧ ∀ k : Int, k ∈ ks ↔ k ∈ one.map (·.1) ++ other.map (·.1)
def spDiff : DSp := fun ds O Φ _ => ∃ one other : List (Int × Int), ds = [.lst (one.map ePr), .lst (other.map ePr)] ∧ O = [] ∧ one.Pairwise (fun a b => a.1 ≠ b.1) ∧ other.Pairwise (fun a b => a.1 ≠ b.1) ∧ one.length + other.length < 64 ∧ ∀ ks, KeysOf one other ks → Φ (eOI (goF one other ks 0)) []
abbrev nDiff : List Str := ["one", "other", "first", "second", "total", "time"]
theorem sc_diff : FnScope nDiff ["one", "other"] (defScope (topS 53)) := ⟨rfl, rfl, rfl, by decide +kernel, rfl, by decide +kernel, by decide +kernel⟩
theorem ok_diff {M : Mach} {f : Addr} {fd : FuncData} {k : Nat} (F : Fun M.K "difference" "difference" (topS 53) f fd) (h1 : M.mg "sorted" = none) (h2 : M.mg "set" = none) (h3 : M.mg "dict" = none) (h4 : M.mg "list" = none) :
    FnOk M.P M.w M.K M.mg M.base (L2N.CX M.P M.w) (k + 1) f fd ["one", "other"] (liftSp M.K spDiff) := by
  refine fn_body (N := nDiff) (vn := nDiff) (gl := ["sorted", "set", "dict", "list"]) F sc_diff (by decide +kernel) (fun ds O Φ Ψ h => ?_) fun X B ds O Φ Ψ bd h => ?_
  · obtain ⟨_, _, rfl, _⟩ := h
    rfl
  obtain ⟨one, other, rfl, rfl, n1, n2, hl, q⟩ := h
  have C := bd.C
  change WSs _ _ [some _, some _, none, none, none, none] _ _ _
  refine wss_cons ?_
  exists "p2"
  refine wa_cons (we_dictI (rows := one) C (by exists "ev") n1 h3 (by decide +kernel) fun q1 => wa_cons (we_dictI (rows := other) C (by exists "ev") n2 h3 (by decide +kernel) fun q2 => wa_nil ⟨_, _, rfl, ?_⟩))
  exists "nx"
  refine wss_cons (ws_set C (by exists "sa") (by decide +kernel) (we_pv (by exists "ev") ?_))
  exists "nx"
  refine wss_cons (ws_for C (wi_lst (we_frz (wn_sortedSet (ns := one.map (·.1) ++ other.map (·.1)) C h1 (by decide +kernel) h2 (by decide +kernel) (pv_frz (pn_cat (pv_frz (pn_listD (tb := one) C (by exists "ev") (by exists "mem") h4 (by decide +kernel))) (pv_frz (pn_listD (tb := other) C (by exists "ev") (by exists "mem") h4 (by decide +kernel))) .lst .lst (by simp only [List.length_map]; omega))) (by rw [List.map_append]; exact .lst) (by simp only [List.length_append, List.length_map]; omega)
    fun ks k1 k2 => ⟨_, rfl, fun i G' O' => ∃ (tot : Int) (g5 : Option D), G' = [some (.lst (one.map ePr)), some (.lst (other.map ePr)), some (.obj q1), some (.obj q2), some (.int tot), g5] ∧ O' = [(q2, .dic (other.map entD)), (q1, .dic (one.map entD))] ∧ goF one other (ks.drop i) tot = goF one other ks 0, ⟨0, none, rfl, rfl, rfl⟩, fun _ _ _ _ _ p hp => (List.not_mem_nil hp).elim, ?_, ?_⟩))))
  · rintro i d G' O' hd ⟨tot, g5, rfl, rfl, e1⟩
    obtain ⟨m, hx, rfl, hdr⟩ := map_at hd
    rw [hdr] at e1
    exists "t1"
    refine wss_cons (ws_augI C ip_add (by exists "va") (by exists "sa") (by decide +kernel) (we_pv (pv_sub (pv_dgetI (tb := one) C (by exists "ev") (by exists "ev") (by exists "ev") (by exists "mem")) (pv_dgetI (tb := other) C (by exists "ev") (by exists "ev") (by exists "ev") (by exists "mem"))) ⟨_, rfl, ?_⟩))
    exists "nx"
    refine wss_one (ws_if (wt_pv (by exists "et") (if_2 (fun hc => ?_) (fun hc => ?_))))
    · have e2 := of_decide_eq_true hc
      rw [goF, if_pos e2] at e1
      refine wss_one (ws_ret (we_less (we_pv (by exists "ev") ⟨[], List.nil_sublist _, ?_⟩)))
      exists "nx"
      have z := q ks ⟨k1, k2⟩
      rw [← e1] at z
      exact z
    · have e2 := of_decide_eq_false hc
      rw [goF, if_neg e2] at e1
      exact wss_nil ⟨_, _, rfl, rfl, e1⟩
  · rintro G' O' ⟨tot, g5, rfl, rfl, e1⟩
    rw [List.length_map, List.drop_length] at e1
    refine wss_one (ws_ret (we_less (we_pv (by exists "ev") ⟨[], List.nil_sublist _, ?_⟩)))
    exists "nx"
    have z := q ks ⟨k1, k2⟩
    rw [← e1] at z
    exact z
abbrev Dist (one : List (Int × Int)) : Prop := one.Pairwise fun a b => a.1 ≠ b.1
def Rel (ls ls' : List Lot) : Prop := ls' = ls ∨ ∃ a t n j b, 0 ≤ n ∧ ls' = a ++ (t, n + 1, j) :: b ∧ ((0 < n ∧ ls = a ++ (t, n, j) :: b) ∨ (n = 0 ∧ ls = a ++ b))
theorem Rel.cons {ls ls' : List Lot} (x : Lot) (h : Rel ls ls') : Rel (x :: ls) (x :: ls') := by
  rcases h with rfl | ⟨a, t, n, j, b, n0, rfl, h⟩
  · exact .inl rfl
  · refine .inr ⟨x :: a, t, n, j, b, n0, rfl, ?_⟩
    rcases h with ⟨n1, rfl⟩ | ⟨n1, rfl⟩
    · exact .inl ⟨n1, rfl⟩
    · exact .inr ⟨n1, rfl⟩
theorem Rel.total {ls ls' : List Lot} (h : Rel ls ls') : total ls ≤ total ls' := by
  rcases h with rfl | ⟨a, t, n, j, b, n0, rfl, ⟨n1, rfl⟩ | ⟨n1, rfl⟩⟩
  · exact Int.le_refl _
  · rw [total_app, total_app, total_cons, total_cons]
    dsimp only
    omega
  · rw [total_app, total_app, total_cons]
    dsimp only
    omega
theorem take_zero : ∀ ls : List Lot, (takeF ls 0).1 = ls
  | [] => rfl
  | l :: r => by rw [takeF, if_neg (by omega)]
theorem take_one : ∀ (ls : List Lot) (m : Int), PosL ls → 0 ≤ m → m + 1 ≤ total ls → Rel (takeF ls (m + 1)).1 (takeF ls m).1
  | [], m, _, h0, h1 => by
    rw [total_nil] at h1
    omega
  | x :: r, m, p, h0, h1 => by
    rw [total_cons] at h1
    have px := p x List.mem_cons_self
    by_cases m0 : m = 0
    · subst m0
      rw [take_zero, takeF, if_pos (by omega)]
      by_cases c : x.2.1 ≤ 0 + 1
      · rw [if_pos c]
        have e : x.2.1 = 1 := by omega
        rw [e]
        show Rel (takeF r (0 + 1 - 1)).1 _
        rw [show (0 + 1 - 1 : Int) = 0 from rfl, take_zero]
        exact .inr ⟨[], x.1, 0, x.2.2, r, Int.le_refl _, by rw [← show x.2.1 = 0 + 1 from e]; rfl, .inr ⟨rfl, rfl⟩⟩
      · rw [if_neg c]
        exact .inr ⟨[], x.1, x.2.1 - (0 + 1), x.2.2, r, by omega, by rw [show x.2.1 - (0 + 1) + 1 = x.2.1 from by omega]; rfl, .inl ⟨by omega, rfl⟩⟩
    · rw [takeF, takeF, if_pos (show 0 < m + 1 by omega), if_pos (show 0 < m by omega)]
      by_cases c : x.2.1 ≤ m
      · rw [if_pos (show x.2.1 ≤ m + 1 by omega), if_pos c]
        have z := take_one r (m - x.2.1) p.tail (by omega) (by omega)
        rw [show m - x.2.1 + 1 = m + 1 - x.2.1 from by omega] at z
        exact z
      · rw [if_neg c]
        by_cases c2 : x.2.1 ≤ m + 1
        · rw [if_pos c2]
          have e : m + 1 - x.2.1 = 0 := by omega
          rw [e]
          show Rel (takeF r 0).1 ((x.1, x.2.1 - m, x.2.2) :: r)
          rw [take_zero]
          exact .inr ⟨[], x.1, 0, x.2.2, r, Int.le_refl _, by rw [show x.2.1 - m = 0 + 1 from by omega]; rfl, .inr ⟨rfl, rfl⟩⟩
        · rw [if_neg c2]
          exact .inr ⟨[], x.1, x.2.1 - (m + 1), x.2.2, r, by omega, by rw [show x.2.1 - (m + 1) + 1 = x.2.1 - m from by omega]; rfl, .inl ⟨by omega, rfl⟩⟩
theorem rel_take_at {t n j : Int} {b : List Lot} (n0 : 0 ≤ n) (p : PosL b) : ∀ (a : List Lot) (m : Int), PosL a → 0 ≤ m → m ≤ total a + n + total b →
    (0 < n → Rel (takeF (a ++ (t, n, j) :: b) m).1 (takeF (a ++ (t, n + 1, j) :: b) m).1) ∧ (n = 0 → Rel (takeF (a ++ b) m).1 (takeF (a ++ (t, n + 1, j) :: b) m).1)
  | [], m, _, m0, h => by
    rw [total_nil, Int.zero_add] at h
    rw [List.nil_append, List.nil_append, List.nil_append]
    by_cases e : m = 0
    · subst e
      rw [take_zero, take_zero, take_zero]
      exact ⟨fun n1 => .inr ⟨[], t, n, j, b, n0, rfl, .inl ⟨n1, rfl⟩⟩, fun n1 => .inr ⟨[], t, n, j, b, n0, rfl, .inr ⟨n1, rfl⟩⟩⟩
    · refine ⟨fun n1 => ?_, fun n1 => ?_⟩
      · rw [takeF, takeF, if_pos (show 0 < m by omega), if_pos (show 0 < m by omega)]
        dsimp only
        by_cases c : n + 1 ≤ m
        · rw [if_pos (show n ≤ m by omega), if_pos c]
          have z := take_one b (m - (n + 1)) p (by omega) (by omega)
          rw [show m - (n + 1) + 1 = m - n from by omega] at z
          exact z
        · by_cases c2 : n ≤ m
          · rw [if_pos c2, if_neg c]
            show Rel (takeF b (m - n)).1 ((t, n + 1 - m, j) :: b)
            rw [show m - n = 0 from by omega, take_zero, show n + 1 - m = 0 + 1 from by omega]
            exact .inr ⟨[], t, 0, j, b, Int.le_refl _, rfl, .inr ⟨rfl, rfl⟩⟩
          · rw [if_neg c2, if_neg c]
            exact .inr ⟨[], t, n - m, j, b, by omega, by show _ = (t, n - m + 1, j) :: b; rw [show n - m + 1 = n + 1 - m from by omega], .inl ⟨by omega, rfl⟩⟩
      · subst n1
        rw [takeF.eq_def ((t, 0 + 1, j) :: b) m]
        dsimp only
        rw [if_pos (show 0 < m by omega), if_pos (show 0 + 1 ≤ m by omega)]
        have z := take_one b (m - (0 + 1)) p (by omega) (by omega)
        rw [show m - (0 + 1) + 1 = m from by omega] at z
        exact z
  | y :: a, m, pa, m0, h => by
    rw [total_cons] at h
    have py := pa y List.mem_cons_self
    rw [List.cons_append, List.cons_append, List.cons_append]
    rw [takeF, takeF, takeF]
    by_cases e : 0 < m
    · rw [if_pos e, if_pos e, if_pos e]
      by_cases c : y.2.1 ≤ m
      · rw [if_pos c, if_pos c, if_pos c]
        exact rel_take_at n0 p a (m - y.2.1) pa.tail (by omega) (by omega)
      · rw [if_neg c, if_neg c, if_neg c]
        exact ⟨fun n1 => .inr ⟨(y.1, y.2.1 - m, y.2.2) :: a, t, n, j, b, n0, rfl, .inl ⟨n1, rfl⟩⟩, fun n1 => .inr ⟨(y.1, y.2.1 - m, y.2.2) :: a, t, n, j, b, n0, rfl, .inr ⟨n1, rfl⟩⟩⟩
    · rw [if_neg e, if_neg e, if_neg e]
      exact ⟨fun n1 => .inr ⟨y :: a, t, n, j, b, n0, rfl, .inl ⟨n1, rfl⟩⟩, fun n1 => .inr ⟨y :: a, t, n, j, b, n0, rfl, .inr ⟨n1, rfl⟩⟩⟩
theorem Rel.take {ls ls' : List Lot} (h : Rel ls ls') (p : PosL ls') {m : Int} (m0 : 0 ≤ m) (hm : m ≤ _root_.G42.total ls) : Rel (takeF ls m).1 (takeF ls' m).1 := by
  rcases h with rfl | ⟨a, t, n, j, b, n0, rfl, h⟩
  · exact .inl rfl
  · have pa : PosL a := fun x hx => p x (List.mem_append_left _ hx)
    have pb : PosL b := fun x hx => p x (List.mem_append_right _ (List.mem_cons_of_mem _ hx))
    rcases h with ⟨n1, rfl⟩ | ⟨n1, rfl⟩
    · rw [total_app, total_cons] at hm
      exact (rel_take_at n0 pb a m pa m0 (by dsimp only at hm; omega)).1 n1
    · rw [total_app] at hm
      exact (rel_take_at n0 pb a m pa m0 (by omega)).2 n1
theorem Rel.lapse {ls ls' : List Lot} {span T : Int} (h : Rel ls ls') (a' : Asc ls') (a0 : Asc ls) : Rel (lapseF span T ls).1 (lapseF span T ls').1 := by
  rw [lapseF_asc a', lapseF_asc a0]
  dsimp only
  rcases h with rfl | ⟨a, t, n, j, b, n0, rfl, h⟩
  · exact .inl rfl
  · rw [List.filter_append, List.filter_cons]
    by_cases c : T < t + span
    · rw [if_pos (by simpa using c)]
      refine .inr ⟨a.filter _, t, n, j, b.filter _, n0, rfl, ?_⟩
      rcases h with ⟨n1, rfl⟩ | ⟨n1, rfl⟩
      · rw [List.filter_append, List.filter_cons, if_pos (by simpa using c)]
        exact .inl ⟨n1, rfl⟩
      · rw [List.filter_append]
        exact .inr ⟨n1, rfl⟩
    · rw [if_neg (by simpa using c)]
      rcases h with ⟨n1, rfl⟩ | ⟨n1, rfl⟩
      · rw [List.filter_append, List.filter_cons, if_neg (by simpa using c)]
        exact .inl rfl
      · rw [List.filter_append]
        exact .inl rfl
structure RelI (T : Int) (ls ls' : List Lot) : Prop where
  rel : Rel ls ls'
  a : Asc ls
  a' : Asc ls'
  p : PosL ls'
  le : ∀ x ∈ ls, x.1 ≤ T
  le' : ∀ x ∈ ls', x.1 ≤ T
theorem lapse_asc {span t : Int} {ls : List Lot} (h : Asc ls) : Asc (lapseF span t ls).1 := by
  rw [lapseF_asc h]
  exact h.filter _
theorem asc_snoc {T t n j : Int} {ls : List Lot} (h : Asc ls) (le : ∀ x ∈ ls, x.1 ≤ T) (ht : T ≤ t) : Asc (ls ++ [(t, n, j)]) := List.pairwise_append.mpr ⟨h, List.pairwise_singleton _ _, fun x hx y hy => by
  rw [List.mem_singleton.mp hy]
  exact Int.le_trans (le x hx) ht⟩
theorem le_snoc {T t n j : Int} {ls : List Lot} (le : ∀ x ∈ ls, x.1 ≤ T) (ht : T ≤ t) : ∀ x ∈ ls ++ [(t, n, j)], x.1 ≤ t := fun x hx => by
  rcases List.mem_append.mp hx with hx | hx
  · exact Int.le_trans (le x hx) ht
  · rw [List.mem_singleton.mp hx]
    exact Int.le_refl _
theorem le_take {T n : Int} {ls : List Lot} (le : ∀ x ∈ ls, x.1 ≤ T) : ∀ x ∈ (takeF ls n).1, x.1 ≤ T := fun x hx => by
  obtain ⟨l, hl, e, _⟩ := takeF_src x hx
  rw [← e]
  exact le l hl
theorem Rel.snoc {ls ls' : List Lot} (x : Lot) (h : Rel ls ls') : Rel (ls ++ [x]) (ls' ++ [x]) := by
  rcases h with rfl | ⟨a, t, n, j, b, n0, rfl, h⟩
  · exact .inl rfl
  · refine .inr ⟨a, t, n, j, b ++ [x], n0, by simp, ?_⟩
    rcases h with ⟨n1, rfl⟩ | ⟨n1, rfl⟩
    · exact .inl ⟨n1, by simp⟩
    · exact .inr ⟨n1, by simp⟩
theorem run_rel {span til : Int} : ∀ (rest : List Ev) (i : Nat) (T : Int) (ls ls' gs gs' : List Lot) (ts ts' : List Tk), RelI T ls ls' → (∀ e ∈ rest, T ≤ e.2.1 ∧ 0 < e.2.2 ∧ e.2.1 ≤ til) → AscE rest → (runF span til i rest ls gs ts).2.2.2 = none → (runF span til i rest ls' gs' ts').2.2.2 = none
  | [], _, _, _, _, _, _, _, _, _, _, _, _ => rfl
  | (kd, t, n) :: r, i, T, ls, ls', gs, gs', ts, ts', h, hev, asc, no => by
    obtain ⟨a1, a2, a3⟩ := hev _ List.mem_cons_self
    obtain ⟨b1, b2⟩ := List.pairwise_cons.mp asc
    dsimp only at a1 a2 a3 b1
    have hev' : ∀ e ∈ r, t ≤ e.2.1 ∧ 0 < e.2.2 ∧ e.2.1 ≤ til := fun e he => by
      have z := hev e (List.mem_cons_of_mem _ he)
      exact ⟨b1 e he, z.2.1, z.2.2⟩
    have R := h.rel.lapse (span := span) (T := t) h.a' h.a
    have q := lapse_asc (span := span) (t := t) h.a
    have q' := lapse_asc (span := span) (t := t) h.a'
    have p' := lapse_pos (span := span) (t := t) h.p
    have l := fun x hx => h.le x (lapseF_mem span t ls x hx)
    have l' := fun x hx => h.le' x (lapseF_mem span t ls' x hx)
    cases kd with
    | true =>
      rw [runF_earn a3] at no ⊢
      refine run_rel r (i + 1) t _ _ _ _ _ _ ⟨R.snoc _, asc_snoc q l a1, asc_snoc q' l' a1, fun x hx => ?_, le_snoc l a1, le_snoc l' a1⟩ hev' b2 no
      rcases List.mem_append.mp hx with hx | hx
      · exact p' x hx
      · rw [List.mem_singleton.mp hx]
        exact a2
    | false =>
      by_cases cv : n ≤ total (lapseF span t ls).1
      · rw [runF_spend a3 cv] at no
        rw [runF_spend a3 (Int.le_trans cv R.total)]
        exact run_rel r (i + 1) t _ _ _ _ _ _ ⟨R.take p' (Int.le_of_lt a2) cv, takeF_asc q, takeF_asc q', takeF_pos p' n, fun x hx => Int.le_trans (le_take l x hx) a1, fun x hx => Int.le_trans (le_take l' x hx) a1⟩ hev' b2 no
      · rw [runF_refuse a3 (Int.not_le.mp cv)] at no
        cases no
theorem more_cons {e : Ev} {r : List Ev} {p : Nat} {m : Int} {x : Ev} (h : r[p]? = some x) : moreF (e :: r) (p + 1) m = e :: moreF r p m := by
  rw [moreF_at h, moreF_at (e := x) (by simpa using h)]
  rfl
theorem run_more {span til t n : Int} : ∀ (rest : List Ev) (p i : Nat) (T : Int) (ls gs : List Lot) (ts : List Tk), rest[p]? = some (true, t, n) → Asc ls → PosL ls → (∀ x ∈ ls, x.1 ≤ T) → (∀ e ∈ rest, T ≤ e.2.1 ∧ 0 < e.2.2 ∧ e.2.1 ≤ til) → AscE rest → (runF span til i rest ls gs ts).2.2.2 = none → (runF span til i (moreF rest p 1) ls gs ts).2.2.2 = none
  | [], p, _, _, _, _, _, h, _, _, _, _, _, _ => by simp at h
  | (kd, t', n') :: r, p, i, T, ls, gs, ts, h, a, ps, le, hev, asc, no => by
    obtain ⟨a1, a2, a3⟩ := hev _ List.mem_cons_self
    obtain ⟨b1, b2⟩ := List.pairwise_cons.mp asc
    dsimp only at a1 a2 a3 b1
    have hev' : ∀ e ∈ r, t' ≤ e.2.1 ∧ 0 < e.2.2 ∧ e.2.1 ≤ til := fun e he => by
      have z := hev e (List.mem_cons_of_mem _ he)
      exact ⟨b1 e he, z.2.1, z.2.2⟩
    have q := lapse_asc (span := span) (t := t') a
    have p' := lapse_pos (span := span) (t := t') ps
    have l := fun x hx => le x (lapseF_mem span t' ls x hx)
    cases p with
    | zero =>
      cases h
      rw [moreF_at (e := (true, t, n)) rfl]
      show (runF span til i ((true, t, n + 1) :: r) ls gs ts).2.2.2 = none
      rw [runF_earn a3] at no ⊢
      refine run_rel r (i + 1) t _ _ _ _ _ _ ⟨.inr ⟨_, t, n, i, [], Int.le_of_lt a2, rfl, .inl ⟨a2, rfl⟩⟩, asc_snoc q l a1, asc_snoc q l a1, fun x hx => ?_, le_snoc l a1, le_snoc l a1⟩ hev' b2 no
      rcases List.mem_append.mp hx with hx | hx
      · exact p' x hx
      · rw [List.mem_singleton.mp hx]
        show 0 < n + 1
        omega
    | succ p =>
      have h' : r[p]? = some (true, t, n) := by simpa using h
      rw [more_cons h']
      cases kd with
      | true =>
        rw [runF_earn a3] at no ⊢
        refine run_more r p (i + 1) t' _ _ _ h' (asc_snoc q l a1) (fun x hx => ?_) (le_snoc l a1) hev' b2 no
        rcases List.mem_append.mp hx with hx | hx
        · exact p' x hx
        · rw [List.mem_singleton.mp hx]
          exact a2
      | false =>
        by_cases cv : n' ≤ total (lapseF span t' ls).1
        · rw [runF_spend a3 cv] at no ⊢
          exact run_more r p (i + 1) t' _ _ _ h' (takeF_asc q) (takeF_pos p' n') (fun x hx => Int.le_trans (le_take l x hx) a1) hev' b2 no
        · rw [runF_refuse a3 (Int.not_le.mp cv)] at no
          cases no
/-- a log that refuses nothing, its amounts of any size -/
structure PosW (log : List Ev) (span : Int) : Prop where
  ev : ∀ e ∈ log, 0 ≤ e.2.1 ∧ e.2.1 ≤ 10000 ∧ 0 < e.2.2
  asc : AscE log
  no : (playF span 10000 log).2.2.2 = none
  s1 : 1 ≤ span
  s2 : span ≤ 1000
theorem Gd.posw {log : List Ev} {span t : Int} (h : Gd log span t) (s1 : 1 ≤ span) (s2 : span ≤ 1000) : PosW log span := ⟨fun e he => by have := (h.ev e he).1; exact ⟨this.1, this.2.1, by have := this.2.2.1; omega⟩, h.asc, h.no, s1, s2⟩
theorem PosW.inv {log : List Ev} {span u : Int} (h : PosW log span) (u0 : 0 ≤ u) : (playF span u log).2.2.2 = none ∧ Inv (log.filter fun e => decide (e.2.1 ≤ u)) span u (playF span u log).1 (playF span u log).2.1 := by
  obtain ⟨h1, h2⟩ := run_inv h.s1 (u := u) (inv_nil span 0) u0 (fun e he => ⟨(h.ev e he).1, (h.ev e he).2.2, (h.ev e he).2.1⟩) h.asc (play_no h.no)
  refine ⟨?_, h2⟩
  unfold playF endF
  rw [h1]
/-- the rows of all lapses -/
abbrev gsF (log : List Ev) (span : Int) : List Lot := (playF span 12000 log).2.1
/-- lapsed until s -/
def LF (log : List Ev) (span s : Int) : Int := sumBy lam (fun g => decide (g.1 ≤ s)) (gsF log span)
theorem exists_max : ∀ {xs : List Lot}, xs ≠ [] → ∃ g ∈ xs, ∀ x ∈ xs, x.1 ≤ g.1
  | [], h => (h rfl).elim
  | [x], _ => ⟨x, List.mem_cons_self, fun y hy => by rw [List.mem_singleton.mp hy]; exact Int.le_refl _⟩
  | x :: y :: r, _ => by
    obtain ⟨g, hg, h⟩ := exists_max (xs := y :: r) (by simp)
    by_cases c : x.1 ≤ g.1
    · refine ⟨g, List.mem_cons_of_mem _ hg, fun z hz => ?_⟩
      rcases List.mem_cons.mp hz with rfl | hz
      · exact c
      · exact h z hz
    · refine ⟨x, List.mem_cons_self, fun z hz => ?_⟩
      rcases List.mem_cons.mp hz with rfl | hz
      · exact Int.le_refl _
      · have := h z hz; omega
section
variable {log : List Ev} {span : Int}
theorem PosW.filt (h : PosW log span) : log.filter (fun e => decide (e.2.1 ≤ 12000)) = log := List.filter_eq_self.mpr fun e he => decide_eq_true (by have := (h.ev e he).2.1; omega)
theorem PosW.all (h : PosW log span) : Inv log span 12000 (playF span 12000 log).1 (gsF log span) := by
  have z := (h.inv (u := 12000) (by decide)).2
  rw [h.filt] at z
  exact z
theorem LF_nonneg (h : PosW log span) (s : Int) : 0 ≤ LF log span s := sumBy_nonneg fun g hg => Int.le_of_lt (h.all.posg g hg)
theorem LF_mono (h : PosW log span) {s t : Int} (l : s ≤ t) : LF log span s ≤ LF log span t := sumBy_mono (fun g hg => Int.le_of_lt (h.all.posg g hg)) fun g _ c => decide_eq_true (by have := of_decide_eq_true c; omega)
theorem LF_value (h : PosW log span) {s : Int} (l : s ≤ 12000) : valueF log span s ≤ LF log span s := h.all.v1 s l
theorem LF_at (h : PosW log span) (s : Int) : LF log span s = 0 ∨ ∃ g ∈ gsF log span, g.1 ≤ s ∧ LF log span s = LF log span g.1 ∧ valueF log span g.1 = LF log span g.1 := by
  by_cases c : (gsF log span).filter (fun g => decide (g.1 ≤ s)) = []
  · exact .inl (sumBy_none fun g hg => by
      have z := List.filter_eq_nil_iff.mp c g hg
      simpa using z)
  · obtain ⟨g, hg, mx⟩ := exists_max c
    obtain ⟨g1, g2⟩ := List.mem_filter.mp hg
    have g2 := of_decide_eq_true g2
    refine .inr ⟨g, g1, g2, sumBy_congr fun x hx => ?_, h.all.v2 g g1⟩
    refine decide_eq_decide.mpr ⟨fun z => mx x (List.mem_filter.mpr ⟨hx, decide_eq_true z⟩), fun z => Int.le_trans z g2⟩
theorem LF_gone (h : PosW log span) {u : Int} (u0 : 0 ≤ u) (u1 : u ≤ 12000) : goneBy log span u = LF log span u := by
  obtain ⟨X, hX, hX2⟩ := play_rows h.s1 u1 h.asc (h.inv (u := 12000) (by decide)).1
  have I := (h.inv u0).2
  rw [goneBy_total, total_sumBy, LF, gsF, hX, sumBy_app, sumBy_none (xs := X) fun x hx => decide_eq_false (by have := hX2 x hx; omega), Int.add_zero]
  exact sumBy_congr fun g hg => (decide_eq_true (I.gle g hg)).symm
theorem lapsesF_MI (h : PosW log span) : MI (lapsesF log span) ((gsF log span).map fun l : Lot => (l.1, l.2.1)) := mergeF_MI (asc_pr h.all.ascg)
theorem lapsesF_dist (h : PosW log span) : Dist (lapsesF log span) := (lapsesF_MI h).asc.imp fun z => by omega
/-- balances at all moments -/
theorem PosW.bal (h : PosW log span) {u : Int} (u0 : 0 ≤ u) (u1 : u ≤ 12000) : total (playF span u log).1 = sumBy eam (fun e => decide (e.2.1 ≤ u) && isE e) log - sumBy eam (fun e => decide (e.2.1 ≤ u) && isS e) log - LF log span u := by
  have := (h.inv u0).2.tot
  rw [sumBy_filter, sumBy_filter] at this
  have e := LF_gone h u0 u1
  rw [goneBy_total] at e
  omega
end
theorem at_split {log : List Ev} {i : Nat} {e : Ev} (h : log[i]? = some e) : log = log.take i ++ e :: log.drop (i + 1) := by
  have hi := (List.getElem?_eq_some_iff.mp h).1
  have he := (List.getElem?_eq_some_iff.mp h).2
  have z := List.take_append_drop i log
  rw [List.drop_eq_getElem_cons hi, he] at z
  exact z.symm
theorem more_posE {log : List Ev} {span t n : Int} {i : Nat} (h : PosW log span) (he : log[i]? = some (true, t, n)) : PosW (moreF log i 1) span := by
  have hm := moreF_at (m := 1) he
  dsimp only at hm
  have hp := h.ev _ (List.mem_of_getElem? he)
  refine ⟨fun e hx => ?_, ?_, ?_, h.s1, h.s2⟩
  · rw [hm] at hx
    rcases List.mem_append.mp hx with hx | hx
    · exact h.ev e (List.mem_of_mem_take hx)
    · rcases List.mem_cons.mp hx with rfl | hx
      · dsimp only at hp ⊢
        omega
      · exact h.ev e (List.mem_of_mem_drop hx)
  · have a := h.asc
    rw [at_split he] at a
    have z : (moreF log i 1).map (fun e : Ev => e.2.1) = (log.take i ++ (true, t, n) :: log.drop (i + 1)).map fun e : Ev => e.2.1 := by
      rw [hm, List.map_append, List.map_append, List.map_cons, List.map_cons]
    have a2 : ((log.take i ++ (true, t, n) :: log.drop (i + 1)).map fun e : Ev => e.2.1).Pairwise (· ≤ ·) := List.pairwise_map.mpr a
    rw [← z] at a2
    exact List.pairwise_map.mp a2
  · have no : (runF span 10000 0 (moreF log i 1) [] [] []).2.2.2 = none := run_more log i 0 0 [] [] [] he .nil (fun _ h => (List.not_mem_nil h).elim) (fun _ h => (List.not_mem_nil h).elim) (fun e hx => by
      have := h.ev e hx
      omega) h.asc (play_no h.no)
    unfold playF endF
    rw [no]
theorem asc_same : ∀ {xs ys : List Int}, xs.Pairwise (· < ·) → ys.Pairwise (· < ·) → (∀ k, k ∈ xs ↔ k ∈ ys) → xs = ys
  | [], [], _, _, _ => rfl
  | [], y :: ys, _, _, h => (List.not_mem_nil ((h y).mpr List.mem_cons_self)).elim
  | x :: xs, [], _, _, h => (List.not_mem_nil ((h x).mp List.mem_cons_self)).elim
  | x :: xs, y :: ys, a, b, h => by
    obtain ⟨a1, a2⟩ := List.pairwise_cons.mp a
    obtain ⟨b1, b2⟩ := List.pairwise_cons.mp b
    have e : x = y := by
      rcases List.mem_cons.mp ((h x).mp List.mem_cons_self) with e | q
      · exact e
      · rcases List.mem_cons.mp ((h y).mpr List.mem_cons_self) with e | q2
        · exact e.symm
        · have := b1 x q
          have := a1 y q2
          omega
    subst e
    refine congrArg (x :: ·) (asc_same a2 b2 fun k => ?_)
    constructor
    · intro hk
      rcases List.mem_cons.mp ((h k).mp (List.mem_cons_of_mem _ hk)) with e | q
      · have := a1 k hk
        omega
      · exact q
    · intro hk
      rcases List.mem_cons.mp ((h k).mpr (List.mem_cons_of_mem _ hk)) with e | q
      · have := b1 k hk
        omega
      · exact q
/-- the moment that the program tells -/
def MoV (log : List Ev) (i : Nat) (span v : Int) : Prop := ∀ ks, KeysOf (lapsesF (moreF log i 1) span) (lapsesF log span) ks → goF (lapsesF (moreF log i 1) span) (lapsesF log span) ks 0 = some v
theorem run_til {life t1 t2 : Int} : ∀ (log : List Ev) (i : Nat) (ls gs : List Lot) (ts : List Tk), (∀ e ∈ log, e.2.1 ≤ t1 ∧ e.2.1 ≤ t2) → runF life t1 i log ls gs ts = runF life t2 i log ls gs ts
  | [], _, _, _, _, _ => rfl
  | e :: r, i, ls, gs, ts, h => by
    obtain ⟨h1, h2⟩ := h e List.mem_cons_self
    have hr := fun x hx => h x (List.mem_cons_of_mem _ hx)
    rw [runF, runF, if_pos h1, if_pos h2, run_til r _ _ _ _ hr, run_til r _ _ _ _ hr]
def spNeedKindE : DSp := fun ds O Φ _ => ∃ (log : List Ev) (i : Nat) (e : Ev), ds = [.tup (log.map eEv), .int i, .str "earn"] ∧ log[i]? = some e ∧ e.1 = true ∧ log.length ≤ 100 ∧ Φ .non O
theorem ok_needkinde {M : Mach} {f : Addr} {fd : FuncData} {k : Nat} (F : Fun M.K "need_kind" "need_kind" (topS 52) f fd) (h1 : M.mg "len" = none) (g : GFn M "is_from" k spIsFrom) :
    FnOk M.P M.w M.K M.mg M.base (L2N.CX M.P M.w) (k + 1) f fd nNeedK (liftSp M.K spNeedKindE) := by
  refine fn_body (N := nNeedK) (vn := nNeedK) (gl := ["is_from", "len", "InvalidIndex"]) F sc_needkind (by decide +kernel) (fun ds O Φ Ψ h => ?_) fun X B ds O Φ Ψ bd h => ?_
  · obtain ⟨_, _, _, rfl, _⟩ := h
    rfl
  obtain ⟨log, i, ⟨kd, t, n⟩, rfl, he, hk, hlen, q⟩ := h
  have C := bd.C
  have hi := (List.getElem?_eq_some_iff.mp he).1
  have hat := atE he
  dsimp only at hk
  subst hk
  change WSs _ _ [some _, some _, some _] _ _ _
  refine wss_one (ws_ifv (c := false) (PWv.t (pwv_or (ca := false) (PTv.to (pt_notv (ca := true) (pt_ofv (PEv.to (pv_call C g bd.r (by decide +kernel) (by exists "ea") fun Φ Ψ z => ⟨_, _, _, _, rfl, .int _, z⟩) ?_))) rfl) fun _ => pwv_or1 (ca := false) (PTv.to (pt_ne (pv_ix (pv_ix (by exists "ev") (by exists "ev") .tup hat) pv_int .tup at0) (by exists "ev") rfl) (by rw [kW_earn] <;> rfl)))) (fun h => by cases h) fun _ => wss_nil q)
  show D.bl (decide ((0 : Int) ≤ i) && decide ((i : Int) ≤ ((log.map eEv).length : Int) - 1)) = _
  rw [decide_eq_true (by omega), decide_eq_true (by rw [List.length_map]; omega)] <;> rfl
theorem lapsesF_len17 (log : List Ev) (life : Int) : (lapsesF log life).length ≤ log.length := by
  have hm := mergeF_len ((playF life 12000 log).2.1.map fun l : Lot => (l.1, l.2.1))
  have hp := playF_len life 12000 log
  rw [List.length_map] at hm
  change (lapsesF log life).length ≤ _ at hm
  omega
def spEarned : DSp := fun ds O Φ _ => ∃ (log : List Ev) (i : Nat) (life v t n : Int), ds = [.tup (log.map eEv), .int i, .int life] ∧ Fine log life ∧ log[i]? = some (true, t, n) ∧ MoV log i life v ∧ Φ (.int v) O
theorem Fine.posw {log : List Ev} {span : Int} (h : Fine log span) : PosW log span := ⟨fun e he => by have := h.ok.ev e he; exact ⟨this.1, this.2.1, by have := this.2.2.1; omega⟩, ascE_of_ord h.ok.ord, h.no, h.l1, h.l2⟩
theorem sc_earned : FnScope ["log", "index", "life"] ["log", "index", "life"] (defScope (topS 54)) := ⟨rfl, rfl, rfl, by decide +kernel, rfl, by decide +kernel, by decide +kernel⟩
theorem ok_earned {M : Mach} {f : Addr} {fd : FuncData} {k : Nat} (F : Fun M.K "after_more_earned" "after_more_earned" (topS 54) f fd) (g1 : GFn M "need_possible" k spNeedPossible) (g2 : GFn M "need_kind" k spNeedKindE) (g3 : GFn M "with_more" k spWithMore) (g5 : GFn M "all_lapses" k spLapsesW) (g6 : GFn M "difference" k spDiff) :
    FnOk M.P M.w M.K M.mg M.base (L2N.CX M.P M.w) (k + 1) f fd ["log", "index", "life"] (liftSp M.K spEarned) := by
  refine fn_body (N := ["log", "index", "life"]) (vn := ["log", "index", "life"]) (gl := ["need_possible", "need_kind", "with_more", "all_lapses", "difference"]) F sc_earned (by decide +kernel) (fun ds O Φ Ψ h => ?_) fun X B ds O Φ Ψ bd h => ?_
  · obtain ⟨_, _, _, _, _, _, rfl, _⟩ := h
    rfl
  obtain ⟨log, i, life, v, t, n, rfl, fine, he, mv, q⟩ := h
  have C := bd.C
  have hl := fine.ok.len
  have hp := fine.ok.pos
  have pw := fine.posw
  have pw2 := more_posE pw he
  have hp2 : PosEv (moreF log i 1) := fun e h => (pw2.ev e h).2.2
  have hl2 : (moreF log i 1).length ≤ 30 := by rw [moreF_len]; exact hl
  have l1 := lapsesF_len17 log life
  have l2 := lapsesF_len17 (moreF log i 1) life
  change WSs _ _ [some _, some _, some _] _ _ _
  refine wss_cons (ws_expr (we_pv (pv_call C g1 bd.r (by decide +kernel) (by exists "ea") fun Φ Ψ z => ⟨log, life, rfl, fine, z⟩) ?_))
  exists "nx"
  refine wss_cons (ws_expr (we_pv (pv_call C g2 bd.r (by decide +kernel) (by exists "ea") fun Φ Ψ z => ⟨log, i, _, rfl, he, rfl, by omega, z⟩) ?_))
  exists "nx"
  exact wss_one (ws_ret (we_pv (pv_call' C g6 bd.r (by decide +kernel) (pa_consv (pv_call C g5 bd.r (by decide +kernel) (pa_consv (pv_call C g3 bd.r (by decide +kernel) (by exists "ea") fun Φ Ψ z => ⟨log, i, 1, _, rfl, he, by omega, z⟩) (by exists "ea")) fun Φ Ψ z => ⟨moreF log i 1, life, rfl, hp2, by omega, z⟩) (pa_consv (pv_call C g5 bd.r (by decide +kernel) (by exists "ea") fun Φ Ψ z => ⟨log, life, rfl, hp, by omega, z⟩) pa_nilv)) fun Φ Ψ z => ⟨lapsesF (moreF log i 1) life, lapsesF log life, rfl, rfl, lapsesF_dist pw2, lapsesF_dist pw, by omega, fun ks hks => by rw [mv ks hks]; exact z⟩) q))
/-- values without objects of one's own -/
inductive VD : D → Prop
  | non : VD .non
  | bl (b : Bool) : VD (.bl b)
  | int (i : Int) : VD (.int i)
  | str (x : Str) : VD (.str x)
  | tup {ds : List D} : (∀ d ∈ ds, VD d) → ds.length ≤ 1000 → VD (.tup ds)
  | lst {ds : List D} : (∀ d ∈ ds, VD d) → ds.length ≤ 1000 → VD (.lst ds)
theorem VD.ty {d : D} (h : VD d) (O : Own) : ∃ t, TyD O d t := by
  cases h with
  | non => exact ⟨_, .non⟩
  | bl b => exact ⟨_, .bl b⟩
  | int i => exact ⟨_, .int i⟩
  | str x => exact ⟨_, .str x⟩
  | tup => exact ⟨_, .tup _⟩
  | lst => exact ⟨_, .lst _⟩
def isTupD : D → Bool
  | .tup _ => true
  | _ => false
section
variable {M : Mach} {X : Cx} {N : List Str} {sc : Scope} {vb lb gb : Str → Bool} {B : Bs} {G : Sl} {O : Own} {a : Expr} {pos p p2 : Pos} {d : D}
theorem pv_isTup (C : Cxt M X N sc vb lb gb) (h1 : M.mg "isinstance" = none) (g1 : gb "isinstance" = true) (h2 : M.mg "tuple" = none) (g2 : gb "tuple" = true) (ha : PEv X B G O a d) (v : VD d) (sa : Plain1 a := by exact fun _ _ => star_cons rfl) : PEv X B G O (.Call (.Name "isinstance" p) [a, .Name "tuple" p2] [] pos) (.bl (isTupD d)) := by
  cases v with
  | non => exact pv_isi C h1 g1 ha .non (pv_tTup C h2 g2) kt_NoneType_tuple sa
  | bl b => exact pv_isi C h1 g1 ha (.bl _) (pv_tTup C h2 g2) kt_bool_tuple sa
  | int i => exact pv_isi C h1 g1 ha (.int _) (pv_tTup C h2 g2) kt_int_tuple sa
  | str x => exact pv_isi C h1 g1 ha (.str _) (pv_tTup C h2 g2) kt_str_tuple sa
  | tup => exact pv_isi C h1 g1 ha (.tup _) (pv_tTup C h2 g2) kt_tuple_tuple sa
  | lst => exact pv_isi C h1 g1 ha (.lst _) (pv_tTup C h2 g2) kt_list_tuple sa
end
/-- one part's pair -/
def pairB (log : List Ev) (life : Int) (i : Nat) (e : Ev) : D → Bool
  | .tup [.int k, .int n] => decide (0 ≤ k) && decide (k ≤ (i : Int) - 1) && (decide (1 ≤ n) && decide (n ≤ e.2.2)) && (match log[k.toNat]? with
    | some x => x.1 && decide (e.2.1 < x.2.1 + life)
    | none => false)
  | _ => false
theorem pairB_eq {log : List Ev} {life : Int} {i : Nat} {e : Ev} {d : D} (h : pairB log life i e d = true) : ∃ (k n : Int) (x : Ev), d = .tup [.int k, .int n] ∧ 0 ≤ k ∧ k ≤ (i : Int) - 1 ∧ 1 ≤ n ∧ n ≤ e.2.2 ∧ log[k.toNat]? = some x ∧ x.1 = true ∧ e.2.1 < x.2.1 + life := by
  unfold pairB at h
  split at h
  · rename_i k n
    cases hx : log[k.toNat]? with
    | none => rw [hx, Bool.and_false] at h; cases h
    | some x =>
      rw [hx] at h
      simp only [Bool.and_eq_true, decide_eq_true_iff] at h
      exact ⟨k, n, x, rfl, h.1.1.1, h.1.1.2, h.1.2.1, h.1.2.2, hx, h.2.1, h.2.2⟩
  · cases h
theorem pairs_eq {log : List Ev} {life : Int} {i : Nat} {e : Ev} : ∀ {ds : List D}, ds.all (pairB log life i e) = true → ∃ ps : List (Int × Int), ds = ps.map ePr ∧ ∀ q ∈ ps, 0 ≤ q.1 ∧ q.1 ≤ (i : Int) - 1 ∧ 1 ≤ q.2 ∧ q.2 ≤ e.2.2 ∧ ∃ x, log[q.1.toNat]? = some x ∧ x.1 = true ∧ e.2.1 < x.2.1 + life
  | [], _ => ⟨[], rfl, fun _ h => (List.not_mem_nil h).elim⟩
  | d :: ds, h => by
    rw [List.all_cons, Bool.and_eq_true] at h
    obtain ⟨k, n, x, rfl, h1, h2, h3, h4, h5, h6, h7⟩ := pairB_eq h.1
    obtain ⟨ps, rfl, hp⟩ := pairs_eq h.2
    refine ⟨(k, n) :: ps, rfl, fun q hq => ?_⟩
    rcases List.mem_cons.mp hq with rfl | hq
    · exact ⟨h1, h2, h3, h4, x, h5, h6, h7⟩
    · exact hp q hq
/-- the first item of a pair, the second -/
def fstD : D → Int
  | .tup (.int k :: _) => k
  | _ => 0
def sndD : D → Int
  | .tup [_, .int n] => n
  | _ => 0
def ascD (ds : List D) : Bool := (ds.zip (ds.drop 1)).all fun q => decide (fstD q.1 < fstD q.2)
def partB (log : List Ev) (life : Int) (i : Nat) (e : Ev) : D → Bool
  | .tup ds => ds.all (pairB log life i e) && (ascD ds && decide ((ds.map sndD).sum = e.2.2))
  | _ => false
theorem isFrom_eq {d : D} {lo hi : Int} (h : isFromD d lo hi = true) : ∃ k, d = .int k ∧ lo ≤ k ∧ k ≤ hi := by
  cases d with
  | int k =>
    unfold isFromD at h
    rw [Bool.and_eq_true, decide_eq_true_iff, decide_eq_true_iff] at h
    exact ⟨k, rfl, h.1, h.2⟩
  | _ => cases h
theorem pairB_len {log : List Ev} {life : Int} {i : Nat} {e : Ev} {xs : List D} (h : xs.length ≠ 2) : pairB log life i e (.tup xs) = false := by
  cases z : pairB log life i e (.tup xs) with
  | false => rfl
  | true =>
    obtain ⟨k, n, x, e1, _⟩ := pairB_eq z
    cases e1
    exact (h rfl).elim
theorem pairB_from {log : List Ev} {life : Int} {i : Nat} {e : Ev} {x y : D} (h : (!isFromD x 0 ((i : Int) - 1) || !isFromD y 1 e.2.2) = true) : pairB log life i e (.tup [x, y]) = false := by
  cases z : pairB log life i e (.tup [x, y]) with
  | false => rfl
  | true =>
    obtain ⟨k, n, x0, e1, h1, h2, h3, h4, _⟩ := pairB_eq z
    cases e1
    have h : (!(decide (0 ≤ k) && decide (k ≤ (i : Int) - 1)) || !(decide (1 ≤ n) && decide (n ≤ e.2.2))) = true := h
    rw [decide_eq_true h1, decide_eq_true h2, decide_eq_true h3, decide_eq_true h4] at h
    cases h
theorem ascD_pr (ps : List (Int × Int)) : ascD (ps.map ePr) = (ps.zip (ps.drop 1)).all fun q => decide (q.1.1 < q.2.1) := by
  unfold ascD
  rw [← List.map_drop, List.zip_map, List.all_map]
  rfl
theorem snd_prs (ps : List (Int × Int)) : (ps.map ePr).map sndD = ps.map fun q => q.2 := by
  rw [List.map_map]
  rfl
def spIsPart : DSp := fun ds O Φ _ => ∃ (log : List Ev) (life : Int) (i : Nat) (e : Ev) (v : D), ds = [.tup (log.map eEv), .int life, .int i, v] ∧ log[i]? = some e ∧ log.length ≤ 100 ∧ VD v ∧ Φ (.bl (partB log life i e v)) O
abbrev nIsPart : List Str := ["log", "life", "spending", "value", "pair", "one", "other"]
theorem sc_ispart : FnScope nIsPart ["log", "life", "spending", "value"] (defScope (topS 56)) := ⟨rfl, rfl, rfl, by decide +kernel, rfl, by decide +kernel, by decide +kernel⟩
theorem atEp {log : List Ev} {i : Nat} {e : Ev} (h : log[i]? = some e) : atI (log.map eEv) (i : Int) = some (eEv e) := atN (by rw [List.getElem?_map, h]; rfl)
theorem all_take {α : Type} {f : α → Bool} {xs : List α} {i : Nat} {x : α} (h : xs[i]? = some x) (a : (xs.take i).all f = true) (b : f x = true) : (xs.take (i + 1)).all f = true := by
  rw [List.take_add_one, h]
  show (xs.take i ++ [x]).all f = true
  rw [List.all_append, a, List.all_cons, b]
  rfl
theorem all_not {α : Type} {f : α → Bool} {xs : List α} {i : Nat} {x : α} (h : xs[i]? = some x) (b : f x = false) : xs.all f = false := by
  cases z : xs.all f with
  | false => rfl
  | true =>
    have := List.all_eq_true.mp z x (List.mem_of_getElem? h)
    rw [b] at this
    cases this
theorem ok_ispart {M : Mach} {f : Addr} {fd : FuncData} {k : Nat} (F : Fun M.K "is_part" "is_part" (topS 56) f fd) (h1 : M.mg "isinstance" = none) (h2 : M.mg "tuple" = none) (h3 : M.mg "len" = none) (h4 : M.mg "all" = none) (h5 : M.mg "zip" = none) (h6 : M.mg "sum" = none) (g : GFn M "is_from" k spIsFrom) :
    FnOk M.P M.w M.K M.mg M.base (L2N.CX M.P M.w) (k + 1) f fd ["log", "life", "spending", "value"] (liftSp M.K spIsPart) := by
  refine fn_body (N := nIsPart) (vn := ["log", "life", "spending", "value", "pair"]) (gl := ["isinstance", "tuple", "len", "all", "zip", "sum", "is_from"]) F sc_ispart (by decide +kernel) (fun ds O Φ Ψ h => ?_) fun X B ds O Φ Ψ bd h => ?_
  · obtain ⟨_, _, _, _, _, rfl, _⟩ := h
    rfl
  obtain ⟨log, life, i, e, v, rfl, he, hlen, vd, q⟩ := h
  have C := bd.C
  have hi := (List.getElem?_eq_some_iff.mp he).1
  have hat := atEp he
  change WSs _ _ [some _, some _, some _, some _, none, none, none] _ _ _
  refine wss_cons (ws_if (wt_pv (pt_notv (pt_ofv (pv_isTup C h1 (by decide +kernel) h2 (by decide +kernel) (by exists "ev") vd))) ?_))
  cases vd with
  | @tup ds hv hl =>
    refine if_f rfl (wss_nil ?_)
    exists "nx"
    refine wss_cons (ws_for C (wi_v (wiv_tup (by exists "ev")) ⟨fun j G' O' => ∃ g4, G' = [some (.tup (log.map eEv)), some (.int life), some (.int i), some (.tup ds), g4, none, none] ∧ O = O' ∧ (ds.take j).all (pairB log life i e) = true, ⟨none, rfl, rfl, rfl⟩,
      fun _ _ _ _ _ p hp => (List.not_mem_nil hp).elim, ?_, ?_⟩))
    · rintro j d G' O' hd ⟨g4, rfl, rfl, ha⟩
      have bad : pairB log life i e d = false → Φ (.bl false) O := fun z => by
        have z2 : partB log life i e (.tup ds) = false := by
          show (ds.all (pairB log life i e) && _) = false
          rw [all_not hd z, Bool.false_and]
        rw [z2] at q
        exact q
      have vd := hv d (List.mem_of_getElem? hd)
      exists "t1"
      cases vd with
      | @tup xs hxs hxl =>
        refine wss_cons (ws_if (wt_pv (PWv.t (pwv_or (ca := false) (PTv.to (pt_notv (pt_ofv (pv_isTup C h1 (by decide +kernel) h2 (by decide +kernel) (by exists "ev") (.tup hxs hxl)))) rfl) fun _ => pwv_or1 (pt_ne (by exists "ev") (by exists "ev") rfl))) (if_2 (fun hc => ?_) fun hc => ?_)))
        · have hc := of_decide_eq_false (by simpa using hc)
          exact wss_one (ws_ret (we_pv (by exists "ev") (bad (pairB_len fun z => hc (by rw [z]; rfl)))))
        · have hc : (xs.length : Int) = 2 := by simpa using hc
          obtain ⟨x, y, rfl⟩ : ∃ x y, xs = [x, y] := by
            match xs, hc with
            | [x, y], _ => exact ⟨x, y, rfl⟩
          refine wss_nil ?_
          exists "nx"
          obtain ⟨tx, hx⟩ := (hxs x List.mem_cons_self).ty O
          obtain ⟨ty, hy⟩ := (hxs y (List.mem_cons_of_mem _ List.mem_cons_self)).ty O
          refine wss_cons (ws_if (wt_pv (PWv.t (pwv_or (pt_notv (pt_ofv (pv_call (v := .bl (isFromD x 0 ((i : Int) - 1))) C g bd.r (by decide +kernel) (by exists "ea") fun Φ Ψ z => ⟨_, _, _, _, rfl, hx, z⟩))) fun _ => pwv_or1 (pt_notv (pt_ofv (pv_call (v := .bl (isFromD y 1 e.2.2)) C g bd.r (by decide +kernel) (pa_consv (by exists "ev") (pa_consv (by exists "ev") (pa_consv (pv_ix (pv_ix (by exists "ev") (by exists "ev") .tup hat) pv_int .tup at2) pa_nilv))) fun Φ Ψ z => ⟨_, _, _, _, rfl, hy, z⟩))))) (if_2 (fun hc => ?_) fun hc => ?_)))
          · exact wss_one (ws_ret (we_pv (by exists "ev") (bad (pairB_from hc))))
          · rw [Bool.or_eq_false_iff, Bool.not_eq_false', Bool.not_eq_false'] at hc
            obtain ⟨k, rfl, k0, k1⟩ := isFrom_eq hc.1
            obtain ⟨n, rfl, n0, n1⟩ := isFrom_eq hc.2
            refine wss_nil ?_
            exists "nx"
            obtain ⟨kn, rfl⟩ : ∃ kn : Nat, k = (kn : Int) := ⟨k.toNat, by omega⟩
            obtain ⟨x0, hx0⟩ : ∃ x0, log[kn]? = some x0 := ⟨log[kn]'(by omega), List.getElem?_eq_getElem (by omega)⟩
            have hat0 := atEp hx0
            have pb : pairB log life i e (.tup [.int kn, .int n]) = (x0.1 && decide (e.2.1 < x0.2.1 + life)) := by
              show (decide (0 ≤ (kn : Int)) && decide ((kn : Int) ≤ (i : Int) - 1) && (decide (1 ≤ n) && decide (n ≤ e.2.2)) && (match log[(kn : Int).toNat]? with | some x => x.1 && decide (e.2.1 < x.2.1 + life) | none => false)) = _
              rw [decide_eq_true k0, decide_eq_true k1, decide_eq_true n0, decide_eq_true n1, Int.toNat_natCast, hx0]
              rfl
            refine wss_one (ws_if (wt_pv (PWv.t (pwv_or (pt_ne (pv_ix (pv_ix (by exists "ev") (pv_ix (by exists "ev") (by exists "ev") .tup at0) .tup hat0) pv_int .tup at0) (by exists "ev") rfl) fun _ => pwv_or1 (pt_le (pv_add (pv_ix (pv_ix (by exists "ev") (pv_ix (by exists "ev") (by exists "ev") .tup at0) .tup hat0) pv_int .tup at1) (by exists "ev")) (pv_ix (pv_ix (by exists "ev") (by exists "ev") .tup hat) pv_int .tup at1)))) (if_2 (fun hc => ?_) fun hc => ?_)))
            · refine wss_one (ws_ret (we_pv (by exists "ev") (bad ?_)))
              rw [pb]
              rw [kW_earn, Bool.or_eq_true, decide_eq_true_iff] at hc
              rcases hc with hc | hc
              · rw [Bool.not_eq_true'] at hc
                rw [hc, Bool.false_and]
              · rw [decide_eq_false (by omega), Bool.and_false]
            · refine wss_nil ⟨_, rfl, rfl, all_take hd ha ?_⟩
              rw [pb]
              rw [kW_earn, Bool.or_eq_false_iff, Bool.not_eq_false', decide_eq_false_iff_not] at hc
              rw [hc.1, decide_eq_true (by omega)]
              rfl
      | _ => exact wss_cons (ws_ifv (c := true) (PWv.t (PWv.to (pwv_or (ca := true) (cb := false) (PTv.to (pt_notv (pt_ofv (pv_isTup C h1 (by decide +kernel) h2 (by decide +kernel) (by exists "ev") (by first | exact .non | exact .bl _ | exact .int _ | exact .str _ | exact .lst ‹_› ‹_›)))) rfl) (fun h => by cases h)) rfl)) (fun _ => wss_one (ws_ret (we_pv (by exists "ev") (bad rfl)))) fun h => by cases h)
    · rintro G' O' ⟨g4, rfl, rfl, ha⟩
      rw [List.take_length] at ha
      obtain ⟨ps, rfl, hp⟩ := pairs_eq ha
      rw [List.length_map] at hl
      exists "nx"
      have q : Φ (.bl (ascD (ps.map ePr) && decide (((ps.map ePr).map sndD).sum = e.2.2))) O := by
        have z : partB log life i e (.tup (ps.map ePr)) = (ascD (ps.map ePr) && decide (((ps.map ePr).map sndD).sum = e.2.2)) := by
          show ((ps.map ePr).all (pairB log life i e) && _) = _
          rw [ha, Bool.true_and]
        rw [← z]
        exact q
      rw [ascD_pr, snd_prs] at q
      have hz : zipD (ps.map ePr) (cutD (ps.map ePr) (some ((1 : Nat) : Int)) none) = (ps.zip (ps.drop 1)).map fun p => .tup [ePr p.1, ePr p.2] := by
        rw [cut_from, ← List.map_drop, zipD_map]
      refine wss_cons (ws_if (wt_pv (pt_notv (pt_ofv (pv_allLcA (own := [("one", 5), ("other", 6)]) (xs := ps.zip (ps.drop 1)) (enc := fun p => .tup [ePr p.1, ePr p.2]) (f := fun p => decide (p.1.1 < p.2.1)) C h4 (by decide +kernel) (by decide +kernel) (hz ▸ wiv_zip C h5 (by decide +kernel) (by exists "ev") (pv_sliceT (by exists "ev") (.some pv_int) .none) (.inl ⟨rfl, rfl⟩)) (fun p hp => (List.not_mem_nil hp).elim) (by rw [List.length_zip]; omega) fun e he => ⟨fun X' B' b => ?_⟩))) (if_2 (fun hc => ?_) fun hc => ?_)))
      · have C' := b.C
        exists "wp"
        refine wg_tup C' (wgs_cons (wg_name C' (by exists "sa") (by decide +kernel) (by decide) (wgs_cons (wg_name C' (by exists "sa") (by decide +kernel) (by decide) (wgs_nil ⟨rfl, fun X2 b2 => wf_nil ⟨rfl, rfl⟩, fun _ X3 b3 => ?_⟩)))))
        have C3 := b3.C
        exact pv_lt (by exists "ev") (by exists "ev")
      · rw [Bool.not_eq_true'] at hc
        rw [hc, Bool.false_and] at q
        exact wss_one (ws_ret (we_pv (by exists "ev") q))
      · rw [Bool.not_eq_false'] at hc
        rw [hc, Bool.true_and] at q
        refine wss_nil ?_
        exists "nx"
        refine wss_one (ws_ret (we_pv (pv_eq (pv_sumLcA (own := [("pair", 4)]) (xs := ps) (enc := ePr) (f := fun q : Int × Int => q.2) C h6 (by decide +kernel) (by decide +kernel) (wiv_tup (by exists "ev")) (fun p hp => (List.not_mem_nil hp).elim) (by omega) fun e he => ⟨fun X' B' b => ?_⟩) (pv_ix (pv_ix (by exists "ev") (by exists "ev") .tup hat) pv_int .tup at2) rfl) q))
        have C' := b.C
        exists "wp"
        refine wg_name C' (by exists "sa") (by decide +kernel) (by decide) ⟨rfl, fun X2 b2 => wf_nil ⟨rfl, rfl⟩, fun _ X3 b3 => ?_⟩
        have C3 := b3.C
        exists "ev"
  | _ => exact if_t rfl (wss_one (ws_ret (we_pv (d := .bl false) (by exists "ev") q)))
def addS (tb : List (Int × Int)) (r : Int × Int) : List (Int × Int) := putI tb r.1 ((getI tb r.1).getD 0 + r.2)
theorem addS_len (tb : List (Int × Int)) (r : Int × Int) : (addS tb r).length ≤ tb.length + 1 := by
  unfold addS putI
  split
  · rw [List.length_map]; omega
  · rw [List.length_append, List.length_singleton]; omega
def usedP (tb : List (Int × Int)) (ps : Tk) : List (Int × Int) := ps.foldl addS tb
def usedF (cs : List Tk) : List (Int × Int) := cs.foldl usedP []
theorem usedP_len : ∀ (ps : Tk) (tb : List (Int × Int)), (usedP tb ps).length ≤ tb.length + ps.length
  | [], tb => Nat.le_refl _
  | r :: ps, tb => by
    have h1 := usedP_len ps (addS tb r)
    have h2 := addS_len tb r
    show (usedP (addS tb r) ps).length ≤ _
    rw [List.length_cons]
    omega
def spUsed : DSp := fun ds O Φ _ => ∃ cs : List Tk, ds = [.tup (cs.map eTk)] ∧ O = [] ∧ cs.length ≤ 100 ∧ (∀ c ∈ cs, c.length ≤ 1000) ∧ ∀ q, Φ (.obj q) [(q, .dic ((usedF cs).map entD))]
abbrev nUsed : List Str := ["choice", "used", "part", "index", "amount"]
theorem sc_used : FnScope nUsed ["choice"] (defScope (topS 57)) := ⟨rfl, rfl, rfl, by decide +kernel, rfl, by decide +kernel, by decide +kernel⟩
theorem ok_used {M : Mach} {f : Addr} {fd : FuncData} {k : Nat} (F : Fun M.K "used_by" "used_by" (topS 57) f fd) :
    FnOk M.P M.w M.K M.mg M.base (L2N.CX M.P M.w) (k + 1) f fd ["choice"] (liftSp M.K spUsed) := by
  refine fn_body (N := nUsed) (vn := nUsed) (gl := []) F sc_used (by decide +kernel) (fun ds O Φ Ψ h => ?_) fun X B ds O Φ Ψ bd h => ?_
  · obtain ⟨_, rfl, _⟩ := h
    rfl
  obtain ⟨cs, rfl, rfl, hl, hc, q⟩ := h
  have C := bd.C
  change WSs _ _ [some _, none, none, none, none] _ _ _
  refine wss_cons (ws_set C (by exists "sa") (by decide +kernel) (we_dnew fun p => ?_))
  exists "nx"
  refine wss_cons (ws_for C (wi_v (wiv_tup (by exists "ev")) ⟨fun i G' O' => ∃ tb g2 g3 g4, G' = [some (.tup (cs.map eTk)), some (.obj p), g2, g3, g4] ∧ O' = [(p, .dic (tb.map entD))] ∧ (cs.drop i).foldl usedP tb = usedF cs ∧ tb.length ≤ 1000 * i ∧ i ≤ 100, ⟨[], _, _, _, rfl, rfl, rfl, Nat.zero_le _, Nat.zero_le _⟩,
    fun _ _ _ _ _ p hp => (List.not_mem_nil hp).elim, ?_, ?_⟩))
  · rintro i d G' O' hd ⟨tb, g2, g3, g4, rfl, rfl, e1, h2, _⟩
    obtain ⟨ps, hx, rfl, hdr⟩ := map_at hd
    have hi := (List.getElem?_eq_some_iff.mp hx).1
    have hps := hc ps (List.mem_of_getElem? hx)
    rw [hdr, List.foldl_cons] at e1
    have hm := usedP_len ps tb
    exists "t1"
    refine wss_one (ws_for C (wi_v (wiv_tup (by exists "ev")) ⟨fun j G' O' => ∃ tb2 g3 g4, G' = [some (.tup (cs.map eTk)), some (.obj p), some (eTk ps), g3, g4] ∧ O' = [(p, .dic (tb2.map entD))] ∧ (ps.drop j).foldl addS tb2 = usedP tb ps ∧ tb2.length ≤ tb.length + j ∧ j ≤ 1000, ⟨tb, _, _, rfl, rfl, rfl, Nat.le_refl _, Nat.zero_le _⟩,
      fun _ _ _ _ _ p hp => (List.not_mem_nil hp).elim, ?_, ?_⟩))
    · rintro j d G' O' hd ⟨tb2, g3, g4, rfl, rfl, e2, h3, _⟩
      obtain ⟨⟨t, n⟩, hy, rfl, hdr2⟩ := map_at hd
      have hj := (List.getElem?_eq_some_iff.mp hy).1
      rw [hdr2, List.foldl_cons] at e2
      have hm2 := addS_len tb2 (t, n)
      exists "t2"
      refine wss_one (ws_dputI C (we_pv (pv_add (pv_dgetI (tb := tb2) C (by exists "ev") (by exists "ev") (by exists "ev") (by exists "mem")) (by exists "ev")) ⟨_, t, p, tb2, _, rfl, (by exists "ev"), (by exists "ev"), (by exists "mem"), by omega, (by exact OSet.z), addS tb2 (t, n), _, _, rfl, rfl, e2, by omega, by omega⟩))
    · rintro G' O' ⟨tb2, g3, g4, rfl, rfl, e2, h3, _⟩
      rw [List.length_map, List.drop_length] at e2
      have e2' : tb2 = usedP tb ps := e2
      subst e2'
      exact ⟨_, _, _, _, rfl, rfl, e1, by omega, by omega⟩
  · rintro G' O' ⟨tb, g2, g3, g4, rfl, rfl, e1, h2, _⟩
    rw [List.length_map, List.drop_length] at e1
    have e1' : tb = usedF cs := e1
    subst e1'
    exact wss_one (ws_ret (we_pv (by exists "ev") (q p)))
theorem putI_keys (tb : List (Int × Int)) (k v : Int) : (putI tb k v).map (·.1) = if (tb.any fun p => decide (p.1 = k)) = true then tb.map (·.1) else tb.map (·.1) ++ [k] := by
  unfold putI
  split
  · rw [List.map_map]
    refine List.map_congr_left fun p _ => ?_
    show (if p.1 = k then (p.1, v) else p).1 = p.1
    split <;> rfl
  · rw [List.map_append]
    rfl
theorem addS_nd {tb : List (Int × Int)} {r : Int × Int} (h : (tb.map (·.1)).Nodup) : ((addS tb r).map (·.1)).Nodup := by
  unfold addS
  rw [putI_keys]
  split
  · exact h
  · rename_i c
    refine List.nodup_append.mpr ⟨h, List.nodup_cons.mpr ⟨List.not_mem_nil, List.nodup_nil⟩, fun x hx y hy e => c ?_⟩
    rw [List.mem_singleton.mp hy] at e
    obtain ⟨p, hp, rfl⟩ := List.mem_map.mp hx
    exact List.any_eq_true.mpr ⟨p, hp, decide_eq_true e⟩
theorem addS_key {tb : List (Int × Int)} {r : Int × Int} {x : Int} (h : x ∈ (addS tb r).map (·.1)) : x ∈ tb.map (·.1) ∨ x = r.1 := by
  unfold addS at h
  rw [putI_keys] at h
  split at h
  · exact .inl h
  · rcases List.mem_append.mp h with h | h
    · exact .inl h
    · exact .inr (List.mem_singleton.mp h)
theorem usedP_nd : ∀ {ps : Tk} {tb : List (Int × Int)}, (tb.map (·.1)).Nodup → ((usedP tb ps).map (·.1)).Nodup
  | [], _, h => h
  | _ :: ps, _, h => usedP_nd (ps := ps) (addS_nd h)
theorem usedP_key : ∀ {ps : Tk} {tb : List (Int × Int)} {x : Int}, x ∈ (usedP tb ps).map (·.1) → x ∈ tb.map (·.1) ∨ ∃ q ∈ ps, q.1 = x
  | [], _, _, h => .inl h
  | r :: ps, tb, x, h => by
    rcases usedP_key (ps := ps) h with h | ⟨q, hq, e⟩
    · rcases addS_key h with h | h
      · exact .inl h
      · exact .inr ⟨r, List.mem_cons_self, h.symm⟩
    · exact .inr ⟨q, List.mem_cons_of_mem _ hq, e⟩
theorem usedF_nd (cs : List Tk) : ((usedF cs).map (·.1)).Nodup := by
  have z : ∀ {cs : List Tk} {tb : List (Int × Int)}, (tb.map (·.1)).Nodup → ((cs.foldl usedP tb).map (·.1)).Nodup := by
    intro cs
    induction cs with
    | nil => exact fun h => h
    | cons c cs ih => exact fun h => ih (usedP_nd h)
  exact z List.nodup_nil
theorem usedF_key {cs : List Tk} {x : Int} (h : x ∈ (usedF cs).map (·.1)) : ∃ c ∈ cs, ∃ q ∈ c, q.1 = x := by
  have z : ∀ {cs : List Tk} {tb : List (Int × Int)}, x ∈ (cs.foldl usedP tb).map (·.1) → x ∈ tb.map (·.1) ∨ ∃ c ∈ cs, ∃ q ∈ c, q.1 = x := by
    intro cs
    induction cs with
    | nil => exact fun h => .inl h
    | cons c cs ih =>
      intro tb h
      rcases ih h with h | ⟨c', hc, q, hq, e⟩
      · rcases usedP_key h with h | ⟨q, hq, e⟩
        · exact .inl h
        · exact .inr ⟨c, List.mem_cons_self, q, hq, e⟩
      · exact .inr ⟨c', List.mem_cons_of_mem _ hc, q, hq, e⟩
  rcases z h with h | h
  · exact (List.not_mem_nil h).elim
  · exact h
theorem getI_key : ∀ {tb : List (Int × Int)} {k : Int}, k ∈ tb.map (·.1) → getI tb k = some ((getI tb k).getD 0)
  | p :: tb, k, h => by
    by_cases c : p.1 = k
    · have e : getI (p :: tb) k = some p.2 := by unfold getI; rw [List.find?_cons_of_pos (p := fun q : Int × Int => decide (q.1 = k)) (decide_eq_true c)]; rfl
      rw [e]
      rfl
    · have e : getI (p :: tb) k = getI tb k := by unfold getI; rw [List.find?_cons_of_neg (p := fun q : Int × Int => decide (q.1 = k)) (by rw [decide_eq_false c]; exact Bool.false_ne_true)]
      rw [e]
      rcases List.mem_cons.mp h with z | z
      · exact (c z.symm).elim
      · exact getI_key z
/-- the spendings, with their places -/
def spF (log : List Ev) : List (Nat × Ev) := (log.mapIdx fun i e => (i, e)).filter fun x => !x.2.1
theorem spF_get {log : List Ev} {x : Nat × Ev} (h : x ∈ spF log) : log[x.1]? = some x.2 ∧ x.2.1 = false := by
  obtain ⟨h1, h2⟩ := List.mem_filter.mp h
  obtain ⟨i, hi, e⟩ := List.mem_mapIdx.mp h1
  subst e
  exact ⟨List.getElem?_eq_getElem hi, by simpa using h2⟩
def tkD : D → Tk
  | .tup ds => ds.map fun d => (fstD d, sndD d)
  | _ => []
def partsB (log : List Ev) (life : Int) (ds : List D) : Bool := ((spF log).zip ds).all fun x => partB log life x.1.1 x.1.2 x.2
/-- the amount of the event at k -/
def amtF (log : List Ev) (k : Int) : Int := match log[k.toNat]? with
  | some e => e.2.2
  | none => 0
def leftB (log : List Ev) (tb : List (Int × Int)) : Bool := (tb.map (·.1)).all fun k => decide ((getI tb k).getD 0 ≤ amtF log k)
def choiceB (log : List Ev) (life : Int) : D → Bool
  | .tup ds => decide (ds.length = (spF log).length) && (partsB log life ds && leftB log (usedF (ds.map tkD)))
  | _ => false
theorem tk_pr (ps : List (Int × Int)) : tkD (.tup (ps.map ePr)) = ps := by
  show (ps.map ePr).map (fun d => (fstD d, sndD d)) = ps
  rw [List.map_map]
  exact (List.map_congr_left fun p _ => (rfl : _ = id p)).trans (List.map_id _)
/-- good parts are parts -/
structure PartsOk (log : List Ev) (ds : List D) : Prop where
  eq : ds = (ds.map tkD).map eTk
  key : ∀ c ∈ ds.map tkD, ∀ q ∈ c, 0 ≤ q.1 ∧ q.1 < log.length ∧ ∃ x, log[q.1.toNat]? = some x ∧ x.1 = true
theorem parts_ok {log : List Ev} {life : Int} : ∀ {sp : List (Nat × Ev)} {ds : List D}, (∀ x ∈ sp, log[x.1]? = some x.2) → ds.length = sp.length → ((sp.zip ds).all fun x => partB log life x.1.1 x.1.2 x.2) = true → PartsOk log ds
  | [], [], _, _, _ => ⟨rfl, fun _ h => (List.not_mem_nil h).elim⟩
  | x :: sp, d :: ds, hs, hl, h => by
    rw [List.zip_cons_cons, List.all_cons, Bool.and_eq_true] at h
    obtain ⟨e1, k1⟩ := parts_ok (fun y hy => hs y (List.mem_cons_of_mem _ hy)) (by simpa using hl) h.2
    have hp := h.1
    dsimp only at hp
    cases d with
    | tup xs =>
      have ha : xs.all (pairB log life x.1 x.2) = true := by
        have z : (xs.all (pairB log life x.1 x.2) && _) = true := hp
        rw [Bool.and_eq_true] at z
        exact z.1
      obtain ⟨ps, rfl, hps⟩ := pairs_eq ha
      refine ⟨?_, fun c hc q hq => ?_⟩
      · rw [List.map_cons, List.map_cons, tk_pr, ← e1]
      · rw [List.map_cons, tk_pr] at hc
        rcases List.mem_cons.mp hc with rfl | hc
        · obtain ⟨h1, h2, _, _, y, h5, h6, _⟩ := hps q hq
          exact ⟨h1, by have := (List.getElem?_eq_some_iff.mp h5).1; omega, y, h5, h6⟩
        · exact k1 c hc q hq
    | _ => cases hp
theorem used_le {log : List Ev} {ds : List D} (h : PartsOk log ds) : (usedF (ds.map tkD)).length ≤ log.length := by
  have z := nodup_le log.length (usedF_nd (ds.map tkD)) fun x hx => by
    obtain ⟨c, hc, q, hq, rfl⟩ := usedF_key hx
    obtain ⟨h1, h2, _⟩ := h.key c hc q hq
    exact ⟨h1, h2⟩
  rw [List.length_map] at z
  exact z
theorem all_perm {xs ys : List Int} (h : xs.Perm ys) (f : Int → Bool) : xs.all f = ys.all f := by
  rw [Bool.eq_iff_iff, List.all_eq_true, List.all_eq_true]
  exact ⟨fun z y hy => z y (h.mem_iff.mpr hy), fun z y hy => z y (h.mem_iff.mp hy)⟩
def spFits : DSp := fun ds O Φ _ => ∃ (log : List Ev) (life : Int) (v : D), ds = [.tup (log.map eEv), .int life, v] ∧ O = [] ∧ log.length ≤ 30 ∧ VD v ∧ Φ (.bl (choiceB log life v)) []
abbrev nFits : List Str := ["log", "life", "value", "spendings", "used", "index", "event", "spending", "part"]
theorem sc_fits : FnScope nFits ["log", "life", "value"] (defScope (topS 58)) := ⟨rfl, rfl, rfl, by decide +kernel, rfl, by decide +kernel, by decide +kernel⟩
theorem ok_fits {M : Mach} {f : Addr} {fd : FuncData} {k : Nat} (F : Fun M.K "fits" "fits" (topS 58) f fd) (h1 : M.mg "isinstance" = none) (h2 : M.mg "tuple" = none) (h3 : M.mg "len" = none) (h4 : M.mg "all" = none) (h5 : M.mg "zip" = none) (h6 : M.mg "enumerate" = none) (h7 : M.mg "sorted" = none) (g1 : GFn M "is_part" k spIsPart) (g2 : GFn M "used_by" k spUsed) :
    FnOk M.P M.w M.K M.mg M.base (L2N.CX M.P M.w) (k + 1) f fd ["log", "life", "value"] (liftSp M.K spFits) := by
  refine fn_body (N := nFits) (vn := ["log", "life", "value", "spendings", "used"]) (gl := ["isinstance", "tuple", "len", "all", "zip", "enumerate", "sorted", "used_by"]) F sc_fits (by decide +kernel) (fun ds O Φ Ψ h => ?_) fun X B ds O Φ Ψ bd h => ?_
  · obtain ⟨_, _, _, rfl, _⟩ := h
    rfl
  obtain ⟨log, life, v, rfl, rfl, hlen, vd, q⟩ := h
  have C := bd.C
  have hsl : (spF log).length ≤ 30 := by
    unfold spF
    exact Nat.le_trans (List.length_filter_le _ _) (by rw [List.length_mapIdx]; exact hlen)
  change WSs _ _ [some _, some _, some _, none, none, none, none, none, none] _ _ _
  refine wss_cons (ws_setLcP (own := [("index", 5), ("event", 6)]) (xs := log.mapIdx fun i e => (i, e)) (enc := fun x : Nat × Ev => .tup [.int (x.1 : Int), eEv x.2]) (c := fun x : Nat × Ev => !x.2.1) (f := fun x : Nat × Ev => D.int (x.1 : Int)) C (by exists "sa") rfl (by decide +kernel) (enumD_mapE eEv log ▸ wiv_enumT C h6 (by decide +kernel) (by exists "ev")) (fun p hp => (List.not_mem_nil hp).elim) (by rw [List.length_mapIdx]; omega) (fun x hx => ⟨fun X' B' b => ?_⟩) fun p => ?_)
  · have C' := b.C
    exists "wp"
    refine wg_tup C' (wgs_cons (wg_name C' (by exists "sa") (by decide +kernel) (by decide) (wgs_cons (wg_name C' (by exists "sa") (by decide +kernel) (by decide) (wgs_nil ⟨rfl, fun X2 b2 => ?_, fun _ X3 b3 => ?_⟩)))))
    · have C2 := b2.C
      exact wf_pv (PTv.to (by exists "et") (kW_spend _)) ⟨rfl, rfl⟩
    · have C3 := b3.C
      exists "ev"
  exists "nx"
  refine wss_freeze (p := p) (by exists "od") (by exists "fz") ?_
  change WSs _ _ [some _, some _, some _, some (.lst ((spF log).map fun x : Nat × Ev => D.int (x.1 : Int))), none, none, none, none, none] _ _ _
  cases vd with
  | @tup ds hv hl =>
    refine wss_cons (ws_if (wt_pv (PWv.t (pwv_or (ca := false) (PTv.to (pt_notv (pt_ofv (pv_isTup C h1 (by decide +kernel) h2 (by decide +kernel) (by exists "ev") (.tup hv hl)))) rfl) fun _ => pwv_or1 (pt_ne (by exists "ev") (by exists "ev") rfl))) (if_2 (fun hc => ?_) fun hc => ?_)))
    · have hc : ¬ ((ds.length : Int) = (((spF log).map fun x : Nat × Ev => D.int (x.1 : Int)).length : Int)) := of_decide_eq_false (by simpa using hc)
      rw [List.length_map] at hc
      have z : choiceB log life (.tup ds) = false := by
        show (decide (ds.length = (spF log).length) && _) = false
        rw [decide_eq_false (fun z => hc (by rw [z])), Bool.false_and]
      rw [z] at q
      exact wss_one (ws_ret (we_pv (by exists "ev") q))
    · have hc : ((ds.length : Int) = (((spF log).map fun x : Nat × Ev => D.int (x.1 : Int)).length : Int)) := by simpa using hc
      rw [List.length_map] at hc
      have hc : ds.length = (spF log).length := by omega
      refine wss_nil ?_
      exists "nx"
      have z1 : choiceB log life (.tup ds) = (partsB log life ds && leftB log (usedF (ds.map tkD))) := by
        show (decide (ds.length = (spF log).length) && _) = _
        rw [decide_eq_true hc, Bool.true_and]
      rw [z1] at q
      have hz : zipD ((spF log).map fun x : Nat × Ev => D.int (x.1 : Int)) ds = ((spF log).zip ds).map fun x : (Nat × Ev) × D => .tup [.int (x.1.1 : Int), x.2] := by
        have z := zipD_map (fun x : Nat × Ev => D.int (x.1 : Int)) (fun d : D => d) (spF log) ds
        rw [List.map_id'] at z
        exact z
      refine wss_cons (ws_if (wt_pv (pt_notv (pt_ofv (pv_allLcA (own := [("spending", 7), ("part", 8)]) (xs := (spF log).zip ds) (enc := fun x : (Nat × Ev) × D => .tup [.int (x.1.1 : Int), x.2]) (f := fun x => partB log life x.1.1 x.1.2 x.2) C h4 (by decide +kernel) (by decide +kernel) (hz ▸ wiv_zipM C h5 (by decide +kernel) (by exists "ev") (by exists "ev") (by rw [List.length_map]; omega)) (fun p hp => (List.not_mem_nil hp).elim) (by rw [List.length_zip]; omega) fun x hx => ⟨fun X' B' b => ?_⟩))) (if_2 (fun hp => ?_) fun hp => ?_)))
      · have C' := b.C
        obtain ⟨x1, x2⟩ := List.of_mem_zip (a := x.1) (b := x.2) hx
        have hv2 := hv x.2 x2
        exists "wp"
        refine wg_tup C' (wgs_cons (wg_name C' (by exists "sa") (by decide +kernel) (by decide) (wgs_cons (wg_name C' (by exists "sa") (by decide +kernel) (by decide) (wgs_nil ⟨rfl, fun X2 b2 => wf_nil ⟨rfl, rfl⟩, fun _ X3 b3 => ?_⟩)))))
        have C3 := b3.C
        exact pv_call C3 g1 (b3.A ▸ bd.r) (by decide +kernel) (by exists "ea") fun Φ Ψ z => ⟨log, life, x.1.1, x.1.2, x.2, rfl, (spF_get x1).1, by omega, hv2, z⟩
      · rw [Bool.not_eq_true'] at hp
        have z2 : partsB log life ds = false := hp
        rw [z2, Bool.false_and] at q
        exact wss_one (ws_ret (we_pv (by exists "ev") q))
      · rw [Bool.not_eq_false'] at hp
        have z2 : partsB log life ds = true := hp
        rw [z2, Bool.true_and] at q
        have po := parts_ok (fun y hy => (spF_get hy).1) hc hp
        refine wss_nil ?_
        exists "nx"
        have hul := used_le po
        generalize hcs : ds.map tkD = cs at q hul
        have he := po.eq
        have hk := po.key
        rw [hcs] at he hk
        have hcl : cs.length ≤ 30 := by rw [← hcs, List.length_map]; omega
        have hcb : ∀ c ∈ cs, c.length ≤ 1000 := fun c hcm => by
          have hm : eTk c ∈ ds := by rw [he]; exact List.mem_map_of_mem hcm
          have := hv _ hm
          cases this with
          | tup _ h => rw [List.length_map] at h; exact h
        clear hv hl z1 hz hp z2 hc po
        subst he
        refine wss_cons (ws_set C (by exists "sa") (by decide +kernel) (we_call C g2 bd.r takes_no (by decide +kernel) (wa_pv (by exists "ea") ⟨[], [], List.Perm.refl _, cs, rfl, rfl, by omega, hcb, fun u => ?_⟩)))
        exists "nx"
        have hkl : ∀ x ∈ (usedF cs).map (·.1), 0 ≤ x ∧ ∃ e, log[x.toNat]? = some e := fun x hx => by
          obtain ⟨c, hc, r, hr, rfl⟩ := usedF_key hx
          obtain ⟨k1, k2, e, k3, _⟩ := hk c hc r hr
          exact ⟨k1, e, k3⟩
        refine wss_one (ws_ret (we_less (we_all C h4 (by decide +kernel) (we_frz (wn_lc (own := [("index", 5)]) C (by decide +kernel) (lc_of (α := Int) (enc := D.int) (c := fun _ => true) (f := fun k => .bl (decide ((getI (usedF cs) k).getD 0 ≤ amtF log k))) (wi_lst (we_frz (wn_sortedD (tb := usedF cs) C (by exists "ev") (.own (by exists "mem")) (by omega) h7 (by decide +kernel) fun ys perm _ => ⟨_, rfl, ys, rfl, fun p hp => (List.not_mem_nil hp).elim, by rw [perm.length_eq, List.length_map]; omega, fun x hx => ⟨fun X' B' b => ?_⟩, ys.map fun k => decide ((getI (usedF cs) k).getD 0 ≤ amtF log k), ?_, [], List.nil_sublist _, ?_⟩)))))))))
        · have C' := b.C
          have hx' := perm.mem_iff.mp hx
          obtain ⟨x0, e, hxe⟩ := hkl x hx'
          obtain ⟨xn, rfl⟩ : ∃ xn : Nat, x = (xn : Int) := ⟨x.toNat, by omega⟩
          rw [Int.toNat_natCast] at hxe
          have hat := atEp hxe
          have ham : amtF log (xn : Int) = e.2.2 := by unfold amtF; rw [Int.toNat_natCast, hxe]
          exists "wp"
          refine wg_name C' (by exists "sa") (by decide +kernel) (by decide) ⟨rfl, fun X2 b2 => wf_nil ⟨rfl, rfl⟩, fun _ X3 b3 => ?_⟩
          have C3 := b3.C
          rw [ham]
          exact pv_le (pv_dsubI (tb := usedF cs) C3 (by exists "ev") (by exists "ev") (.own (by exists "mem")) (getI_key hx')) (pv_ix (pv_ix (by exists "ev") (by exists "ev") .tup hat) pv_int .tup at2)
        · rw [List.filter_eq_self.mpr (fun _ _ => rfl), List.map_map]
          exact .lst
        · rw [List.all_map]
          have z : (ys.all (id ∘ fun k => decide ((getI (usedF cs) k).getD 0 ≤ amtF log k))) = leftB log (usedF cs) := all_perm perm _
          rw [z]
          exact q
  | _ => exact wss_cons (ws_ifv (c := true) (PWv.t (PWv.to (pwv_or (ca := true) (cb := false) (PTv.to (pt_notv (pt_ofv (pv_isTup C h1 (by decide +kernel) h2 (by decide +kernel) (by exists "ev") (by first | exact .non | exact .bl _ | exact .int _ | exact .str _ | exact .lst ‹_› ‹_›)))) rfl) (fun h => by cases h)) rfl)) (fun _ => wss_one (ws_ret (we_pv (d := .bl false) (by exists "ev") q))) fun h => by cases h)
def spIsChoice : DSp := fun ds O Φ _ => ∃ (log : List Ev) (v : D) (life : Int), ds = [.tup (log.map eEv), v, .int life] ∧ Fine log life ∧ VD v ∧ Φ (.bl (choiceB log life v)) O
theorem sc_ischoice : FnScope ["log", "value", "life"] ["log", "value", "life"] (defScope (topS 59)) := ⟨rfl, rfl, rfl, by decide +kernel, rfl, by decide +kernel, by decide +kernel⟩
theorem ok_ischoice {M : Mach} {f : Addr} {fd : FuncData} {k : Nat} (F : Fun M.K "is_choice" "is_choice" (topS 59) f fd) (g1 : GFn M "need_possible" k spNeedPossible) (g2 : GFn M "fits" k spFits) :
    FnOk M.P M.w M.K M.mg M.base (L2N.CX M.P M.w) (k + 1) f fd ["log", "value", "life"] (liftSp M.K spIsChoice) := by
  refine fn_body (N := ["log", "value", "life"]) (vn := ["log", "value", "life"]) (gl := ["need_possible", "fits"]) F sc_ischoice (by decide +kernel) (fun ds O Φ Ψ h => ?_) fun X B ds O Φ Ψ bd h => ?_
  · obtain ⟨_, _, _, rfl, _⟩ := h
    rfl
  obtain ⟨log, v, life, rfl, ok, vd, q⟩ := h
  have C := bd.C
  change WSs _ _ [some _, some _, some _] _ _ _
  refine wss_cons (ws_expr (we_pv (pv_call C g1 bd.r (by decide +kernel) (by exists "ea") fun Φ Ψ z => ⟨log, life, rfl, ok, z⟩) ?_))
  exists "nx"
  exact wss_one (ws_ret (we_pv (pv_call' C g2 bd.r (by decide +kernel) (by exists "ea") fun Φ Ψ z => ⟨log, life, v, rfl, rfl, ok.ok.len, vd, z⟩) q))
def spOldest : DSp := fun ds O Φ _ => ∃ (log : List Ev) (life : Int), ds = [.tup (log.map eEv), .int life] ∧ Fine log life ∧ Φ (.tup ((playF life 10000 log).2.2.1.map eTk)) O
theorem sc_oldest : FnScope ["log", "life"] ["log", "life"] (defScope (topS 60)) := ⟨rfl, rfl, rfl, by decide +kernel, rfl, by decide +kernel, by decide +kernel⟩
theorem ok_oldest {M : Mach} {f : Addr} {fd : FuncData} {k : Nat} (F : Fun M.K "oldest_choice" "oldest_choice" (topS 60) f fd) (h1 : M.mg "tuple" = none) (h2 : ∃ t, M.mg "LAST_TIME" = some (.int 10000 t)) (g1 : GFn M "need_possible" k spNeedPossible) (g2 : GFn M "play" k spPlay) :
    FnOk M.P M.w M.K M.mg M.base (L2N.CX M.P M.w) (k + 1) f fd ["log", "life"] (liftSp M.K spOldest) := by
  refine fn_body (N := ["log", "life"]) (vn := ["log", "life"]) (gl := ["need_possible", "play", "tuple", "LAST_TIME"]) F sc_oldest (by decide +kernel) (fun ds O Φ Ψ h => ?_) fun X B ds O Φ Ψ bd h => ?_
  · obtain ⟨_, _, rfl, _⟩ := h
    rfl
  obtain ⟨log, life, rfl, ok, q⟩ := h
  have C := bd.C
  have hl := ok.ok.len
  change WSs _ _ [some _, some _] _ _ _
  refine wss_cons (ws_expr (we_pv (pv_call C g1 bd.r (by decide +kernel) (by exists "ea") fun Φ Ψ z => ⟨log, life, rfl, ok, z⟩) ?_))
  exists "nx"
  exact wss_one (ws_ret (we_pv (pv_tuple C (pv_ix (pv_call' C g2 bd.r (by decide +kernel) (by exists "ea") fun Φ Ψ z => ⟨log, life, 10000, rfl, rfl, ok.ok.pos, by omega, z⟩) pv_int .tup at2) .lst h1 (by decide +kernel)) q))
def spLapG : GSp := fun ds od => ∃ (log : List Ev) (life : Int), ds = [.tup (log.map eEv), .int life] ∧ Fine log life ∧ od = (lapsesF log life).map ePr
abbrev nLapG : List Str := ["log", "life", "row"]
theorem sc_lapg : GScope nLapG ["log", "life"] (defScope (topS 42)) := ⟨rfl, rfl, rfl, by decide +kernel, rfl, by decide +kernel, by decide +kernel⟩
theorem gok_lapses {M : Mach} {f : Addr} {fd : FuncData} {k : Nat} (F : Fun M.K "lapses" "lapses" (topS 42) f fd) (g1 : GFn M "need_possible" k spNeedPossible) (g2 : GFn M "all_lapses" k spLapses) :
    Gz.GOk M.P M.w M.K M.mg M.base (k + 1) f fd ["log", "life"] (liftG M.K spLapG) := by
  refine gen_body (N := nLapG) (vn := nLapG) (gl := ["need_possible", "all_lapses"]) F sc_lapg rfl rfl (by decide) (by intro _ _; rfl) (by decide +kernel) (fun ds od h => ?_) fun X B ds od C hr h => ?_
  · obtain ⟨_, _, rfl, _⟩ := h
    rfl
  obtain ⟨log, life, rfl, ok, rfl⟩ := h
  refine ⟨?_, ?_⟩
  · exact ws_expr (we_pv (pv_call C g1 hr (by decide +kernel) (pa_consv (pv_var C (.z) (by decide +kernel)) (pa_consv (pv_var C (.s .z) (by decide +kernel)) pa_nilv)) fun Φ Ψ z => ⟨log, life, rfl, ok, z⟩) ⟨rfl, rfl⟩)
  · exact pv_call C g2 hr (by decide +kernel) (pa_consv (pv_var C (.z) (by decide +kernel)) (pa_consv (pv_var C (.s .z) (by decide +kernel)) pa_nilv)) fun Φ Ψ z => ⟨log, life, rfl, ok.ok, z⟩
abbrev T3 := Int × Int × Int
abbrev eT3 (x : T3) : D := .tup [.int x.1, .int x.2.1, .int x.2.2]
def putG (gs : List Lot) : List (Int × Int) := gs.foldl (fun tb l => putI tb l.2.2 l.2.1) []
theorem putI_len1 (tb : List (Int × Int)) (k v : Int) : (putI tb k v).length ≤ tb.length + 1 := by
  unfold putI
  split
  · rw [List.length_map]; omega
  · rw [List.length_append, List.length_singleton]; omega
def fatesG (tb : List (Int × Int)) : Nat → List Ev → List T3
  | _, [] => []
  | i, e :: r => if e.1 = true then ((i : Int), e.2.2 - (getI tb (i : Int)).getD 0, (getI tb (i : Int)).getD 0) :: fatesG tb (i + 1) r else fatesG tb (i + 1) r
def fatesF (log : List Ev) (life : Int) : List T3 := fatesG (putG (playF life 12000 log).2.1) 0 log
def spFates : DSp := fun ds O Φ _ => ∃ (log : List Ev) (life : Int), ds = [.tup (log.map eEv), .int life] ∧ O = [] ∧ Fine log life ∧ ∀ a, Φ (.obj a) [(a, .lst ((fatesF log life).map eT3))]
abbrev nFates : List Str := ["log", "life", "gone", "row", "found", "index", "kind", "time", "amount"]
theorem sc_fates : FnScope nFates ["log", "life"] (defScope (topS 44)) := ⟨rfl, rfl, rfl, by decide +kernel, rfl, by decide +kernel, by decide +kernel⟩
theorem ok_fates {M : Mach} {f : Addr} {fd : FuncData} {k : Nat} (F : Fun M.K "fates" "fates" (topS 44) f fd) (h1 : M.mg "enumerate" = none) (h2 : ∃ t, M.mg "LAST_MOMENT" = some (.int 12000 t)) (g1 : GFn M "need_possible" k spNeedPossible) (g2 : GFn M "play" k spPlay) :
    FnOk M.P M.w M.K M.mg M.base (L2N.CX M.P M.w) (k + 1) f fd ["log", "life"] (liftSp M.K spFates) := by
  refine fn_body (N := nFates) (vn := nFates) (gl := ["need_possible", "play", "LAST_MOMENT", "enumerate"]) F sc_fates (by decide +kernel) (fun ds O Φ Ψ h => ?_) fun X B ds O Φ Ψ bd h => ?_
  · obtain ⟨_, _, rfl, _⟩ := h
    rfl
  obtain ⟨log, life, rfl, rfl, ok, q⟩ := h
  have C := bd.C
  have hl := ok.ok.len
  have hpl := playF_len life 12000 log
  change WSs _ _ [some _, some _, none, none, none, none, none, none, none] _ _ _
  refine wss_cons (ws_expr (we_pv (pv_call C g1 bd.r (by decide +kernel) (by exists "ea") fun Φ Ψ z => ⟨log, life, rfl, ok, z⟩) ?_))
  exists "nx"
  refine wss_cons (ws_set C (by exists "sa") (by decide +kernel) (we_dnew fun p => ?_))
  exists "nx"
  refine wss_cons (ws_for C (wi_v (wiv_lst (ds := (playF life 12000 log).2.1.map eLot) (pv_ix (pv_call' C g2 bd.r (by decide +kernel) (by exists "ea") fun Φ Ψ z => ⟨log, life, 12000, rfl, rfl, ok.ok.pos, by omega, z⟩) pv_int .tup at1)) ⟨fun i G' O' => ∃ (tb : List (Int × Int)) (g3 : Option D), G' = [some (.tup (log.map eEv)), some (.int life), some (.obj p), g3, none, none, none, none, none] ∧ O' = [(p, .dic (tb.map entD))] ∧ ((playF life 12000 log).2.1.drop i).foldl (fun tb l => putI tb l.2.2 l.2.1) tb = putG (playF life 12000 log).2.1 ∧ tb.length ≤ i ∧ i ≤ 100, ⟨[], _, rfl, rfl, rfl, Nat.le_refl _, Nat.zero_le _⟩,
    fun _ _ _ _ _ p hp => (List.not_mem_nil hp).elim, ?_, ?_⟩))
  · rintro i d G' O' hd ⟨tb, g3, rfl, rfl, e1, h3, _⟩
    obtain ⟨⟨t, n, ix⟩, hx, rfl, hdr⟩ := map_at hd
    have hi := (List.getElem?_eq_some_iff.mp hx).1
    rw [hdr, List.foldl_cons] at e1
    have hm := putI_len1 tb ix n
    exists "t1"
    refine wss_one (ws_dputI C (we_pv (by exists "ev") ⟨_, ix, p, tb, _, rfl, (by exists "ev"), (by exists "ev"), (by exists "mem"), by omega, (by exact OSet.z), putI tb ix n, _, rfl, rfl, e1, by omega, by omega⟩))
  · rintro G' O' ⟨tb, g3, rfl, rfl, e1, h3, h4⟩
    rw [List.length_map, List.drop_length] at e1
    have e1' : tb = putG (playF life 12000 log).2.1 := e1
    subst e1'
    refine wss_cons (ws_set C (by exists "sa") (by decide +kernel) (we_own (wn_pv (pn_lst pa_nilv) fun p2 => ?_)))
    exists "nx"
    refine wss_cons (ws_for C (wi_v (wiv_enumT (ds := log.map eEv) C h1 (by decide +kernel) (by exists "ev")) ⟨fun i G' O' => ∃ (acc : List T3) (g5 g6 g7 g8 : Option D), G' = [some (.tup (log.map eEv)), some (.int life), some (.obj p), g3, some (.obj p2), g5, g6, g7, g8] ∧ O' = [(p2, .lst (acc.map eT3)), (p, .dic ((putG (playF life 12000 log).2.1).map entD))] ∧ acc ++ fatesG (putG (playF life 12000 log).2.1) i (log.drop i) = fatesF log life ∧ acc.length ≤ i ∧ i ≤ 100, ⟨[], _, _, _, _, rfl, rfl, rfl, Nat.le_refl _, Nat.zero_le _⟩,
      fun _ _ _ _ _ p hp => (List.not_mem_nil hp).elim, ?_, ?_⟩))
    · rintro i d G' O' hd ⟨acc, g5, g6, g7, g8, rfl, rfl, e2, h5, _⟩
      obtain ⟨⟨kd, et, n⟩, he, rfl, hdr⟩ := enum_at hd
      have hi := (List.getElem?_eq_some_iff.mp he).1
      rw [hdr, fatesG] at e2
      refine wg_tup C (wgs_cons (wg_name C (by exists "sa") (by decide +kernel) trivial (wgs_cons ?_)))
      exists "t3"
      refine wgs_nil (wss_one (ws_if (wt_pv (PTv.to (by exists "et") (kW_earn kd)) (if_2 (fun hc => ?_) fun hc => ?_))))
      · rw [if_pos hc] at e2
        refine wss_one (ws_expr (we_append (by exists "ev") (by exists "mem") (we_pv (pv_tup (pa_consv (by exists "ev") (pa_consv (pv_sub (by exists "ev") (pv_dgetI (tb := putG (playF life 12000 log).2.1) C (by exists "ev") (by exists "ev") (by exists "ev") (by exists "mem"))) (pa_consv (pv_dgetI (tb := putG (playF life 12000 log).2.1) C (by exists "ev") (by exists "ev") (by exists "ev") (by exists "mem")) pa_nilv)))) ⟨_, _, (by exists "mem"), by rw [List.length_map]; omega, (by exists "os"), acc ++ [((i : Int), n - (getI (putG (playF life 12000 log).2.1) (i : Int)).getD 0, (getI (putG (playF life 12000 log).2.1) (i : Int)).getD 0)], _, _, _, _, rfl, ?_, ?_, by rw [List.length_append, List.length_singleton]; omega, by omega⟩)))
        · rw [List.map_append]; rfl
        · rw [List.append_assoc]; exact e2
      · rw [if_neg (by rw [hc]; exact Bool.false_ne_true)] at e2
        exact wss_nil ⟨acc, _, _, _, _, rfl, rfl, e2, by omega, by omega⟩
    · rintro G' O' ⟨acc, g5, g6, g7, g8, rfl, rfl, e2, h5, h6⟩
      have hle : (enumD (log.map eEv)).length = log.length := by rw [enumD_length, List.length_map]
      rw [hle, List.drop_length, fatesG, List.append_nil] at e2
      subst e2
      exact wss_one (ws_ret (we_less (we_pv (by exists "ev") ⟨[(p2, .lst ((fatesF log life).map eT3))], (List.nil_sublist _).cons₂ _, q p2⟩)))
def saveF (log : List Ev) (life : Int) : List (Int × Int) := (lapsesF log life).map fun r => (r.1 - 1, r.2)
def spRescue : DSp := fun ds O Φ _ => ∃ (log : List Ev) (life : Int), ds = [.tup (log.map eEv), .int life] ∧ O = [] ∧ Fine log life ∧ ∀ a, Φ (.obj a) [(a, .lst ((saveF log life).map ePr))]
theorem lapsesF_len {log : List Ev} {life : Int} (ok : OkLog log) : (lapsesF log life).length ≤ 30 := by
  have h1 := mergeF_len ((playF life 12000 log).2.1.map fun l : Lot => (l.1, l.2.1))
  have h2 := playF_len life 12000 log
  have h3 := ok.len
  rw [List.length_map] at h1
  exact Nat.le_trans h1 (by omega)
theorem sc_rescue : FnScope ["log", "life", "time", "amount"] ["log", "life"] (defScope (topS 79)) := ⟨rfl, rfl, rfl, by decide +kernel, rfl, by decide +kernel, by decide +kernel⟩
theorem ok_rescue {M : Mach} {f : Addr} {fd : FuncData} {k : Nat} (F : Fun M.K "rescue" "rescue" (topS 79) f fd) (g : GFn M "need_possible" k spNeedPossible) (g2 : GFn M "all_lapses" k spLapses) :
    FnOk M.P M.w M.K M.mg M.base (L2N.CX M.P M.w) (k + 1) f fd ["log", "life"] (liftSp M.K spRescue) := by
  refine fn_body (N := ["log", "life", "time", "amount"]) (vn := ["log", "life"]) (gl := ["need_possible", "all_lapses"]) F sc_rescue (by decide +kernel) (fun ds O Φ Ψ h => ?_) fun X B ds O Φ Ψ bd h => ?_
  · obtain ⟨_, _, rfl, _⟩ := h
    rfl
  obtain ⟨log, life, rfl, rfl, ok, q⟩ := h
  have C := bd.C
  have hl := lapsesF_len (life := life) ok.ok
  change WSs _ _ [some _, some _, none, none] _ _ _
  refine wss_cons (ws_expr (we_pv (pv_call C g bd.r (by decide +kernel) (by exists "ea") fun Φ Ψ z => ⟨log, life, rfl, ok, z⟩) ?_))
  exists "nx"
  refine wss_one (ws_ret (we_own (wn_pv (ds := (saveF log life).map ePr) (PNv.to (pn_lcA (own := [("time", 2), ("amount", 3)]) (xs := lapsesF log life) (enc := ePr) (f := fun r : Int × Int => ePr (r.1 - 1, r.2)) C (by decide +kernel) (wiv_lst (pv_call C g2 bd.r (by decide +kernel) (by exists "ea") fun Φ Ψ z => ⟨log, life, rfl, ok.ok, z⟩)) (fun p hp => (List.not_mem_nil hp).elim) (by omega) fun l hl => ⟨fun X' B' b => ?_⟩) (by unfold saveF; rw [List.map_map]; rfl)) fun a => q a)))
  have C' := b.C
  exists "wp"
  refine wg_tup C' (wgs_cons (wg_name C' (by exists "sa") (by decide +kernel) (by decide) (wgs_cons (wg_name C' (by exists "sa") (by decide +kernel) (by decide) (wgs_nil ⟨rfl, fun X2 b2 => wf_nil ⟨rfl, rfl⟩, fun _ X3 b3 => ?_⟩)))))
  have C3 := b3.C
  exists "ev"
abbrev imax (i j : Int) : Int := if j > i then j else i
abbrev imin (i j : Int) : Int := if j < i then j else i
/-- where the lot's part starts, how large it is -/
def stF (life most t free : Int) : Int := imax free ((t - life) * most)
def ptF (life most t n free : Int) : Int := imax 0 (imin n (t * most - stF life most t free))
def resF (life most : Int) : List (Int × Int) → Int → Int → Int × Int
  | [], a, b => (a, b)
  | l :: r, a, b => resF life most r (stF life most l.1 a + ptF life most l.1 l.2 a) (b + ptF life most l.1 l.2 a)
abbrev nRescued : List Str := ["log", "most", "life", "free", "found", "time", "amount", "start", "part"]
theorem sc_rescued : FnScope nRescued ["log", "most", "life"] (defScope (topS 80)) := ⟨rfl, rfl, rfl, by decide +kernel, rfl, by decide +kernel, by decide +kernel⟩
def spRescued : DSp := fun ds O Φ _ => ∃ (log : List Ev) (most life : Int), ds = [.tup (log.map eEv), .int most, .int life] ∧ Fine log life ∧ 0 ≤ most ∧ most ≤ 1000000 ∧ Φ (.int (resF life most (lapsesF log life) 0 0).2) O
theorem ok_rescued {M : Mach} {f : Addr} {fd : FuncData} {k : Nat} (F : Fun M.K "rescued" "rescued" (topS 80) f fd) (h1 : M.mg "max" = none) (h2 : M.mg "min" = none) (h3 : ∃ t, M.mg "LARGEST" = some (.int 1000000 t)) (g : GFn M "need_possible" k spNeedPossible) (g2 : GFn M "all_lapses" k spLapses) (g3 : GFn M "is_from" k spIsFrom) :
    FnOk M.P M.w M.K M.mg M.base (L2N.CX M.P M.w) (k + 1) f fd ["log", "most", "life"] (liftSp M.K spRescued) := by
  refine fn_body (N := nRescued) (vn := nRescued) (gl := ["need_possible", "all_lapses", "is_from", "LARGEST", "max", "min"]) F sc_rescued (by decide +kernel) (fun ds O Φ Ψ h => ?_) fun X B ds O Φ Ψ bd h => ?_
  · obtain ⟨_, _, _, rfl, _⟩ := h
    rfl
  obtain ⟨log, most, life, rfl, ok, m0, m1, q⟩ := h
  have C := bd.C
  change WSs _ _ [some _, some _, some _, none, none, none, none, none, none] _ _ _
  refine wss_cons (ws_expr (we_pv (pv_call C g bd.r (by decide +kernel) (by exists "ea") fun Φ Ψ z => ⟨log, life, rfl, ok, z⟩) ?_))
  exists "nx"
  refine wss_cons (ws_ifv (c := false) (PTv.to (pt_notv (ca := true) (pt_ofv (PEv.to (pv_call C g3 bd.r (by decide +kernel) (by exists "ea") fun Φ Ψ z => ⟨_, _, _, _, rfl, .int _, z⟩) ?_))) rfl) (fun h => by cases h) fun _ => wss_nil ?_)
  · show D.bl (decide (0 ≤ most) && decide (most ≤ 1000000)) = _
    rw [decide_eq_true m0, decide_eq_true m1] <;> rfl
  exists "nx"
  refine wss_cons (ws_parC (vs := fun _ => True) (we_pv (by exists "ev") ?_))
  exists "t2"
  exists "nx"
  refine wss_cons (ws_for C (wi_v (wiv_lst (pv_call C g2 bd.r (by decide +kernel) (by exists "ea") fun Φ Ψ z => ⟨log, life, rfl, ok.ok, z⟩)) ⟨fun i G' O' => ∃ (free found : Int) (g5 g6 g7 g8 : Option D), G' = [some (.tup (log.map eEv)), some (.int most), some (.int life), some (.int free), some (.int found), g5, g6, g7, g8] ∧ O' = O ∧
    resF life most ((lapsesF log life).drop i) free found = resF life most (lapsesF log life) 0 0, ⟨_, _, _, _, _, _, rfl, rfl, rfl⟩, fun _ _ _ _ _ p hp => (List.not_mem_nil hp).elim, ?_, ?_⟩))
  · rintro i d G' O' hd ⟨free, found, g5, g6, g7, g8, rfl, rfl, e1⟩
    obtain ⟨⟨t, n⟩, hx, rfl, hdr⟩ := map_at hd
    rw [hdr, resF] at e1
    exists "t2"
    have hc1 : CMul (t - life) most := .inr ⟨by omega, by omega⟩
    have hc2 : CMul t most := .inr ⟨by omega, by omega⟩
    refine wss_cons (ws_set C (by exists "sa") (by decide +kernel) (we_pv (PEv.to (d' := .int (stF life most t free)) (by exists "ev") (by rfl)) ?_))
    exists "nx"
    refine wss_cons (ws_set C (by exists "sa") (by decide +kernel) (we_pv (PEv.to (d' := .int (ptF life most t n free)) (by exists "ev") (by rfl)) ?_))
    exists "nx"
    refine wss_cons (ws_set C (by exists "sa") (by decide +kernel) (we_pv (by exists "ev") ?_))
    exists "nx"
    refine wss_one (ws_augI C ip_add (by exists "va") (by exists "sa") (by decide +kernel) (we_pv (by exists "ev") ⟨_, rfl, ?_⟩))
    exact ⟨_, _, _, _, _, _, rfl, rfl, e1⟩
  · rintro G' O' ⟨free, found, g5, g6, g7, g8, rfl, rfl, e1⟩
    rw [List.length_map, List.drop_length, resF] at e1
    refine wss_one (ws_ret (we_pv (by exists "ev") ?_))
    rw [← e1] at q
    exact q
def excF (E S p L s : Int) : Int := E * ((s - L) / p + 1) - S * ((s + p - 1) / p)
theorem exc_shift {E S p L s : Int} (hp : 0 < p) (j : Int) : excF E S p L (s + p * j) = excF E S p L s + j * (E - S) := by
  unfold excF
  rw [show s + p * j - L = s - L + p * j by omega, show s + p * j + p - 1 = s + p - 1 + p * j by omega, Int.add_mul_ediv_left _ _ (by omega), Int.add_mul_ediv_left _ _ (by omega)]
  rw [show (s - L) / p + j + 1 = (s - L) / p + 1 + j by omega, Int.mul_add E, Int.mul_add S, Int.mul_sub, Int.mul_comm E j, Int.mul_comm S j]
  omega
/-- what has lapsed at T: the largest of these values -/
structure FullL (E S p L T m : Int) : Prop where
  nn : 0 ≤ m
  ub : ∀ s, L ≤ s → s ≤ T → excF E S p L s ≤ m
  at_ : m = 0 ∨ ∃ s, L ≤ s ∧ s ≤ T ∧ excF E S p L s = m
theorem FullL.uniq {E S p L T m n : Int} (h : FullL E S p L T m) (k : FullL E S p L T n) : m = n := by
  have h1 : m ≤ n := by
    rcases h.at_ with z | ⟨s, a, b, z⟩
    · rw [z]; exact k.nn
    · rw [← z]; exact k.ub s a b
  have h2 : n ≤ m := by
    rcases k.at_ with z | ⟨s, a, b, z⟩
    · rw [z]; exact h.nn
    · rw [← z]; exact h.ub s a b
  omega
/-- the last period tells all -/
theorem full_of_window {E S p L T m : Int} (hp : 0 < p) (hg : S ≤ E) (h1 : m = 0 ∨ ∃ s, L ≤ s ∧ s ≤ T ∧ excF E S p L s = m) (h0 : 0 ≤ m) (h2 : ∀ s, L ≤ s → T - p + 1 ≤ s → s ≤ T → excF E S p L s ≤ m) : FullL E S p L T m :=
  ⟨h0, fun s a b => by
    have e := exc_shift (E := E) (S := S) (L := L) (s := s) hp ((T - s) / p)
    have d1 := Int.ediv_mul_add_emod (T - s) p
    have d2 := Int.emod_lt_of_pos (T - s) hp
    have d3 := Int.emod_nonneg (T - s) (by omega : p ≠ 0)
    have d4 : 0 ≤ (T - s) / p := Int.ediv_nonneg (by omega) (by omega)
    have d5 : 0 ≤ (T - s) / p * (E - S) := Int.mul_nonneg d4 (by omega)
    have d6 : 0 ≤ p * ((T - s) / p) := Int.mul_nonneg (by omega) d4
    rw [Int.mul_comm] at d1
    have z := h2 (s + p * ((T - s) / p)) (by omega) (by omega) (by omega)
    omega, h1⟩
/-- when a start's value is above 0 -/
def turnsF (E S p L start : Int) : Int := imax 0 ((1 - excF E S p L start + (E - S) - 1) / (E - S))
def timeF (E S p L start : Int) : Int := start + p * turnsF E S p L start
theorem turns_nn (E S p L start : Int) : 0 ≤ turnsF E S p L start := by
  unfold turnsF imax
  split <;> omega
structure RegOk (E S p L : Int) : Prop where
  e1 : 1 ≤ E
  e9 : E ≤ 1000000
  s0 : 0 ≤ S
  s9 : S ≤ E
  p1 : 1 ≤ p
  p9 : p ≤ 1000
  l1 : 1 ≤ L
  l9 : L ≤ 1000
abbrev nNeedReg : List Str := ["earned", "spent", "period", "life"]
abbrev gNeedReg : List Str := ["is_from", "LARGEST", "LONGEST_LIFE", "need_life", "InvalidAmount", "InvalidNumber"]
theorem sc_needreg : FnScope nNeedReg nNeedReg (defScope (topS 74)) := ⟨rfl, rfl, rfl, by decide +kernel, rfl, by decide +kernel, by decide +kernel⟩
def spNeedReg : DSp := fun ds O Φ _ => ∃ E S p L : Int, ds = [.int E, .int S, .int p, .int L] ∧ RegOk E S p L ∧ Φ .non O
theorem isFrom_ok {i lo hi : Int} (h1 : lo ≤ i) (h2 : i ≤ hi) : D.bl (isFromD (.int i) lo hi) = .bl true := by
  show D.bl (decide (lo ≤ i) && decide (i ≤ hi)) = _
  rw [decide_eq_true h1, decide_eq_true h2] <;> rfl
theorem ok_needreg {M : Mach} {f : Addr} {fd : FuncData} {k : Nat} (F : Fun M.K "need_regular" "need_regular" (topS 74) f fd) (h3 : ∃ t, M.mg "LARGEST" = some (.int 1000000 t)) (h4 : ∃ t, M.mg "LONGEST_LIFE" = some (.int 1000 t)) (g : GFn M "is_from" k spIsFrom) (g2 : GFn M "need_life" k spNeedLife) :
    FnOk M.P M.w M.K M.mg M.base (L2N.CX M.P M.w) (k + 1) f fd nNeedReg (liftSp M.K spNeedReg) := by
  refine fn_body (N := nNeedReg) (vn := nNeedReg) (gl := gNeedReg) F sc_needreg (by decide +kernel) (fun ds O Φ Ψ h => ?_) fun X B ds O Φ Ψ bd h => ?_
  · obtain ⟨_, _, _, _, rfl, _⟩ := h
    rfl
  obtain ⟨E, S, p, L, rfl, ok, q⟩ := h
  have C := bd.C
  change WSs _ _ [some _, some _, some _, some _] _ _ _
  refine wss_cons (ws_ifv (c := false) (PTv.to (pt_notv (ca := true) (pt_ofv (PEv.to (pv_call C g bd.r (by decide +kernel) (by exists "ea") fun Φ Ψ z => ⟨_, _, _, _, rfl, .int _, z⟩) (isFrom_ok ok.e1 ok.e9)))) rfl) (fun h => by cases h) fun _ => wss_nil ?_)
  exists "nx"
  refine wss_cons (ws_ifv (c := false) (PTv.to (pt_notv (ca := true) (pt_ofv (PEv.to (pv_call C g bd.r (by decide +kernel) (by exists "ea") fun Φ Ψ z => ⟨_, _, _, _, rfl, .int _, z⟩) (isFrom_ok ok.s0 ok.s9)))) rfl) (fun h => by cases h) fun _ => wss_nil ?_)
  exists "nx"
  refine wss_cons (ws_ifv (c := false) (PTv.to (pt_notv (ca := true) (pt_ofv (PEv.to (pv_call C g bd.r (by decide +kernel) (by exists "ea") fun Φ Ψ z => ⟨_, _, _, _, rfl, .int _, z⟩) (isFrom_ok ok.p1 ok.p9)))) rfl) (fun h => by cases h) fun _ => wss_nil ?_)
  exists "nx"
  exact wss_one (ws_expr (we_pv (pv_call C g2 bd.r (by decide +kernel) (by exists "ea") fun Φ Ψ z => ⟨L, rfl, ok.l1, ok.l9, z⟩) q))
abbrev nExcess : List Str := ["earned", "spent", "period", "life", "time"]
theorem sc_excess : FnScope nExcess nExcess (defScope (topS 75)) := ⟨rfl, rfl, rfl, by decide +kernel, rfl, by decide +kernel, by decide +kernel⟩
def spExcess : DSp := fun ds O Φ _ => ∃ E S p L s : Int, ds = [.int E, .int S, .int p, .int L, .int s] ∧ RegOk E S p L ∧ Φ (.int (excF E S p L s)) O
theorem ok_excess {M : Mach} {f : Addr} {fd : FuncData} {k : Nat} (F : Fun M.K "excess" "excess" (topS 75) f fd) :
    FnOk M.P M.w M.K M.mg M.base (L2N.CX M.P M.w) (k + 1) f fd nExcess (liftSp M.K spExcess) := by
  refine fn_body (N := nExcess) (vn := nExcess) (gl := []) F sc_excess (by decide +kernel) (fun ds O Φ Ψ h => ?_) fun X B ds O Φ Ψ bd h => ?_
  · obtain ⟨_, _, _, _, _, rfl, _⟩ := h
    rfl
  obtain ⟨E, S, p, L, s, rfl, ok, q⟩ := h
  have C := bd.C
  have a1 := ok.e1
  have a2 := ok.e9
  have a3 := ok.s0
  have a4 := ok.s9
  have a5 := ok.p1
  have a6 := ok.p9
  have d1 : CDiv (s - L) p := ⟨by omega, by omega⟩
  have d2 : CDiv (s + p - 1) p := ⟨by omega, by omega⟩
  have m1 : CMul E ((s - L) / p + 1) := .inl ⟨by omega, by omega⟩
  have m2 : CMul S ((s + p - 1) / p) := .inl ⟨by omega, by omega⟩
  change WSs _ _ [some _, some _, some _, some _, some _] _ _ _
  exact wss_one (ws_ret (we_pv (PEv.to (d' := .int (excF E S p L s)) (by exists "ev") (by rfl)) q))
abbrev nRegular : List Str := ["earned", "spent", "period", "time", "life", "rows", "s"]
abbrev vRegular : List Str := ["earned", "spent", "period", "time", "life", "rows"]
abbrev gRegular : List Str := ["need_regular", "is_from", "MOST_NUMBER", "InvalidNumber", "max", "range"]
theorem sc_regular : FnScope nRegular ["earned", "spent", "period", "time", "life"] (defScope (topS 76)) := ⟨rfl, rfl, rfl, by decide +kernel, rfl, by decide +kernel, by decide +kernel⟩
def spRegular : DSp := fun ds O Φ _ => ∃ E S p T L : Int, ds = [.int E, .int S, .int p, .int T, .int L] ∧ RegOk E S p L ∧ 0 ≤ T ∧ T ≤ 1000000000000000 ∧ ∀ m, FullL E S p L T m → Φ (.int m) O
theorem ok_regular {M : Mach} {f : Addr} {fd : FuncData} {k : Nat} (F : Fun M.K "regular_lapsed" "regular_lapsed" (topS 76) f fd) (h1 : M.mg "max" = none) (h2 : M.mg "range" = none) (h3 : ∃ t, M.mg "MOST_NUMBER" = some (.int 1000000000000000 t)) (g : GFn M "need_regular" k spNeedReg) (g2 : GFn M "is_from" k spIsFrom) (g3 : GFn M "excess" k spExcess) :
    FnOk M.P M.w M.K M.mg M.base (L2N.CX M.P M.w) (k + 1) f fd ["earned", "spent", "period", "time", "life"] (liftSp M.K spRegular) := by
  refine fn_body (N := nRegular) (vn := vRegular) (gl := gRegular) F sc_regular (by decide +kernel) (fun ds O Φ Ψ h => ?_) fun X B ds O Φ Ψ bd h => ?_
  · obtain ⟨_, _, _, _, _, rfl, _⟩ := h
    rfl
  obtain ⟨E, S, p, T, L, rfl, ok, t0, t9, q⟩ := h
  have C := bd.C
  have a3 := ok.s0
  have a5 := ok.p1
  have a6 := ok.p9
  have a7 := ok.l1
  have a8 := ok.l9
  change WSs _ _ [some _, some _, some _, some _, some _, none, none] _ _ _
  refine wss_cons (ws_expr (we_pv (pv_call C g bd.r (by decide +kernel) (by exists "ea") fun Φ Ψ z => ⟨E, S, p, L, rfl, ok, z⟩) ?_))
  exists "nx"
  refine wss_cons (ws_ifv (c := false) (PTv.to (pt_notv (ca := true) (pt_ofv (PEv.to (pv_call C g2 bd.r (by decide +kernel) (by exists "ea") fun Φ Ψ z => ⟨_, _, _, _, rfl, .int _, z⟩) (isFrom_ok t0 t9)))) rfl) (fun h => by cases h) fun _ => wss_nil ?_)
  exists "nx"
  obtain ⟨a, ha, ha1, ha2, ha3⟩ : ∃ a : Int, (if T - p + 1 > L then T - p + 1 else L) = a ∧ L ≤ a ∧ T - p + 1 ≤ a ∧ (a = L ∨ a = T - p + 1) := ⟨_, rfl, by split <;> omega, by split <;> omega, by split <;> omega⟩
  refine wss_cons (ws_setLcP (own := [("s", 6)]) (xs := List.range (T + 1 - a).toNat) (enc := fun i : Nat => D.int (a + i)) (c := fun _ => true) (f := fun i : Nat => D.int (excF E S p L (a + i))) (lk := []) C (by exists "sa") rfl (by decide +kernel) (wi_range2 C h2 (by decide +kernel) (we_pv (PEv.to (d' := .int a) (by exists "ev") (by rw [ha])) (we_pv (by exists "ev") ⟨a, _, rfl, rfl, ⟨by omega, by omega, by omega, by omega⟩, rfl, rfl, rfl⟩)) (star_cons rfl)) (fun p hp => (List.not_mem_nil hp).elim) (by rw [List.length_range]; omega) (fun i hi => ⟨fun X' B' b => ?_⟩) fun r => ?_)
  · have C' := b.C
    exists "wp"
    refine wg_name C' (by exists "sa") (by decide +kernel) (by decide) ⟨rfl, fun X2 b2 => wf_nil ⟨rfl, rfl⟩, fun _ X3 b3 => ?_⟩
    have C3 := b3.C
    exact pv_call C3 g3 (b3.A ▸ bd.r) (by decide +kernel) (by exists "ea") fun Φ Ψ z => ⟨E, S, p, L, _, rfl, ok, z⟩
  have eL : ((List.range (T + 1 - a).toNat).filter fun _ => true).map (fun i : Nat => D.int (excF E S p L (a + i))) = ((List.range (T + 1 - a).toNat).map fun i : Nat => excF E S p L (a + i)).map D.int := by
    rw [List.filter_eq_self.mpr (fun _ _ => rfl), List.map_map]
    rfl
  exists "nx"
  rw [eL]
  refine wss_freeze (p := r) (by exists "od") (by exists "fz") ?_
  refine wss_one (ws_ret (we_maxL C h1 (by decide +kernel) (we_frz (wn_pv (ds := (0 :: (List.range (T + 1 - a).toNat).map fun i : Nat => excF E S p L (a + i)).map D.int) (pn_cat (xs := [.int 0]) (by exists "ev") (by exists "ev") .lst .lst (by rw [List.length_map, List.length_map, List.length_range]; show 1 + _ ≤ _; omega)) ⟨_, .lst, Nat.succ_pos _, fun m h1 h2 => q m ?_⟩))))
  have h0 : 0 ≤ m := h2 0 List.mem_cons_self
  refine full_of_window (by omega) ok.s9 ?_ h0 fun s b1 b2 b3 => ?_
  · rcases List.mem_cons.mp h1 with e | e
    · exact .inl e
    · obtain ⟨i, hi, e⟩ := List.mem_map.mp e
      have hi := List.mem_range.mp hi
      exact .inr ⟨a + i, by omega, by omega, e⟩
  · refine h2 _ (List.mem_cons_of_mem _ (List.mem_map.mpr ⟨(s - a).toNat, List.mem_range.mpr (by omega), ?_⟩))
    congr 1
    omega
abbrev nFLap : List Str := ["earned", "spent", "period", "life", "times", "start", "lack", "gain"]
abbrev gFLap : List Str := ["need_regular", "excess", "max", "min", "range"]
theorem sc_flap : FnScope nFLap ["earned", "spent", "period", "life"] (defScope (topS 77)) := ⟨rfl, rfl, rfl, by decide +kernel, rfl, by decide +kernel, by decide +kernel⟩
def spFLap : DSp := fun ds O Φ _ => ∃ E S p L : Int, ds = [.int E, .int S, .int p, .int L] ∧ RegOk E S p L ∧ (E = S → Φ .non O) ∧ (S < E → ∀ m, (∃ s, L ≤ s ∧ s < L + p ∧ m = timeF E S p L s) → (∀ s, L ≤ s → s < L + p → m ≤ timeF E S p L s) → Φ (.int m) O)
theorem ok_flap {M : Mach} {f : Addr} {fd : FuncData} {k : Nat} (F : Fun M.K "first_lapse" "first_lapse" (topS 77) f fd) (h1 : M.mg "max" = none) (h0 : M.mg "min" = none) (h2 : M.mg "range" = none) (g : GFn M "need_regular" k spNeedReg) (g3 : GFn M "excess" k spExcess) :
    FnOk M.P M.w M.K M.mg M.base (L2N.CX M.P M.w) (k + 1) f fd ["earned", "spent", "period", "life"] (liftSp M.K spFLap) := by
  refine fn_body (N := nFLap) (vn := nFLap) (gl := gFLap) F sc_flap (by decide +kernel) (fun ds O Φ Ψ h => ?_) fun X B ds O Φ Ψ bd h => ?_
  · obtain ⟨_, _, _, _, rfl, _⟩ := h
    rfl
  obtain ⟨E, S, p, L, rfl, ok, q1, q2⟩ := h
  have C := bd.C
  have a1 := ok.e1
  have a2 := ok.e9
  have a3 := ok.s0
  have a4 := ok.s9
  have a5 := ok.p1
  have a6 := ok.p9
  have a7 := ok.l1
  have a8 := ok.l9
  change WSs _ _ [some _, some _, some _, some _, none, none, none, none] _ _ _
  refine wss_cons (ws_expr (we_pv (pv_call C g bd.r (by decide +kernel) (by exists "ea") fun Φ Ψ z => ⟨E, S, p, L, rfl, ok, z⟩) ?_))
  exists "nx"
  refine wss_cons (ws_if (wt_pv (by exists "et") (if_d (fun he => wss_one (ws_ret (we_pv pv_non (q1 he)))) fun he => wss_nil ?_)))
  exists "nx"
  have hg : S < E := by omega
  refine wss_cons (ws_set C (by exists "sa") (by decide +kernel) (we_own (wn_pv (pn_lst pa_nilv) fun r => ?_)))
  exists "nx"
  refine wss_cons (ws_for C (wi_range2 C h2 (by decide +kernel) (we_pv (by exists "ev") (we_pv (by exists "ev") ⟨_, _, rfl, rfl, ⟨by omega, by omega, by omega, by omega⟩, fun i G' O' => ∃ g5 g6 g7, G' = [some (.int E), some (.int S), some (.int p), some (.int L), some (.obj r), g5, g6, g7] ∧ i ≤ 1000 ∧
    O' = (r, .lst (((List.range i).map fun j : Nat => timeF E S p L (L + j)).map D.int)) :: O, ⟨_, _, _, rfl, Nat.zero_le _, rfl⟩, fun _ _ _ _ _ p hp => (List.not_mem_nil hp).elim, ?_, ?_⟩)) (star_cons rfl)))
  · rintro i d G' O' hd ⟨g5, g6, g7, rfl, hi9, rfl⟩
    have hi := (List.getElem?_eq_some_iff.mp hd).1
    rw [List.length_map, List.length_range] at hi
    have hd' : d = .int (L + (i : Nat)) := by
      rw [List.getElem?_map, List.getElem?_range hi] at hd
      exact (Option.some.inj hd).symm
    subst hd'
    exists "t1"
    refine wss_cons (ws_set C (by exists "sa") (by decide +kernel) (we_pv (pv_sub pv_int (pv_call C g3 bd.r (by decide +kernel) (by exists "ea") fun Φ Ψ z => ⟨E, S, p, L, _, rfl, ok, z⟩)) ?_))
    exists "nx"
    refine wss_cons (ws_set C (by exists "sa") (by decide +kernel) (we_pv (by exists "ev") ?_))
    exists "nx"
    have d1 : CDiv (1 - excF E S p L (L + (i : Nat)) + (E - S) - 1) (E - S) := ⟨by omega, by omega⟩
    have m1 : CMul p (if (1 - excF E S p L (L + (i : Nat)) + (E - S) - 1) / (E - S) > 0 then (1 - excF E S p L (L + (i : Nat)) + (E - S) - 1) / (E - S) else 0) := .inl ⟨by omega, by omega⟩
    refine wss_one (ws_expr (we_append (by exists "ev") (by exists "mem") (we_pv (PEv.to (d' := .int (timeF E S p L (L + (i : Nat)))) (by exists "ev") (by rfl)) ⟨_, _, (by exists "mem"), by rw [List.length_map, List.length_map, List.length_range]; omega, (by exists "os"), _, _, _, rfl, by omega, ?_⟩)))
    rw [List.range_succ, List.map_append, List.map_append]
    rfl
  · rintro G' O' ⟨g5, g6, g7, rfl, hi9, rfl⟩
    rw [List.length_map, List.length_range]
    refine wss_one (ws_ret (we_less (we_minL C h0 (by decide +kernel) (we_pv (by exists "ev") ⟨_, .own List.mem_cons_self, by rw [List.length_map, List.length_range]; omega, fun m h1 h2 => ⟨O, List.sublist_cons_self _ _, q2 hg m ?_ fun s b1 b2 => ?_⟩⟩))))
    · obtain ⟨i, hi, e⟩ := List.mem_map.mp h1
      have hi := List.mem_range.mp hi
      exact ⟨L + i, by omega, by omega, e.symm⟩
    · have z := h2 (timeF E S p L s) (List.mem_map.mpr ⟨(s - L).toNat, List.mem_range.mpr (by omega), ?_⟩)
      · exact z
      · congr 1
        omega
def firstF (g : Int → Bool) : Nat → Int → Int → Int
  | 0, lo, _ => lo
  | n + 1, lo, hi => if lo ≤ hi then (if g ((lo + hi) / 2) = true then firstF g n lo ((lo + hi) / 2 - 1) else firstF g n ((lo + hi) / 2 + 1) hi) else lo
abbrev firstI (g : Int → Bool) (lo hi : Int) : Int := firstF g (hi + 1 - lo).toNat lo hi
theorem firstF_fuel (g : Int → Bool) : ∀ (n m : Nat) (lo hi : Int), (hi + 1 - lo).toNat ≤ n → (hi + 1 - lo).toNat ≤ m → firstF g n lo hi = firstF g m lo hi
  | 0, 0, _, _, _, _ => rfl
  | 0, m + 1, lo, hi, h, _ => by
    rw [firstF, firstF, if_neg (by omega)]
  | n + 1, 0, lo, hi, _, h => by
    rw [firstF, firstF, if_neg (by omega)]
  | n + 1, m + 1, lo, hi, h1, h2 => by
    rw [firstF, firstF]
    by_cases c : lo ≤ hi
    · rw [if_pos c, if_pos c, firstF_fuel g n m lo ((lo + hi) / 2 - 1) (by omega) (by omega), firstF_fuel g n m ((lo + hi) / 2 + 1) hi (by omega) (by omega)]
    · rw [if_neg c, if_neg c]
theorem firstI_step (g : Int → Bool) {lo hi : Int} (h : lo ≤ hi) : firstI g lo hi = if g ((lo + hi) / 2) = true then firstI g lo ((lo + hi) / 2 - 1) else firstI g ((lo + hi) / 2 + 1) hi := by
  unfold firstI
  obtain ⟨n, e⟩ : ∃ n, (hi + 1 - lo).toNat = n + 1 := ⟨(hi - lo).toNat, by omega⟩
  rw [e, firstF, if_pos h, firstF_fuel g n _ lo ((lo + hi) / 2 - 1) (by omega) (Nat.le_refl _), firstF_fuel g n _ ((lo + hi) / 2 + 1) hi (by omega) (Nat.le_refl _)]
theorem firstI_end (g : Int → Bool) {lo hi : Int} (h : hi < lo) : firstI g lo hi = lo := by
  unfold firstI
  rw [show (hi + 1 - lo).toNat = 0 by omega, firstF]
theorem firstF_in (g : Int → Bool) : ∀ (n : Nat) (lo hi : Int), lo ≤ firstF g n lo hi ∧ (lo ≤ hi + 1 → firstF g n lo hi ≤ hi + 1)
  | 0, lo, hi => ⟨Int.le_refl _, id⟩
  | n + 1, lo, hi => by
    rw [firstF]
    by_cases c : lo ≤ hi
    · rw [if_pos c]
      split
      · have ih := firstF_in g n lo ((lo + hi) / 2 - 1)
        exact ⟨ih.1, fun _ => by have := ih.2 (by omega); omega⟩
      · have ih := firstF_in g n ((lo + hi) / 2 + 1) hi
        exact ⟨by have := ih.1; omega, fun _ => ih.2 (by omega)⟩
    · rw [if_neg c]
      exact ⟨Int.le_refl _, id⟩
theorem firstI_lo (g : Int → Bool) (lo hi : Int) : lo ≤ firstI g lo hi := (firstF_in g _ lo hi).1
theorem firstI_hi (g : Int → Bool) {lo hi m : Int} (h : lo ≤ m + 1) (h2 : hi ≤ m) : firstI g lo hi ≤ m + 1 := by
  by_cases c : lo ≤ hi + 1
  · have := (firstF_in g (hi + 1 - lo).toNat lo hi).2 c
    show firstF g (hi + 1 - lo).toNat lo hi ≤ m + 1
    omega
  · rw [firstI_end g (by omega)]
    omega
def domT (g : Int → Bool) : List D → D → Prop := fun ds v => ∃ m : Int, 1 ≤ m ∧ m ≤ 1000000 ∧ ds = [.int m] ∧ v = .bl (g m)
def domTh (th : Int → Int → Int) : List D → D → Prop := fun ds v => ∃ k t : Int, 1 ≤ k ∧ k ≤ 1000000 ∧ ds = [.int k, .int t] ∧ v = .int (th k t)
def spFirst (M : Mach) : DSp := fun ds O Φ _ => ∃ (lo hi : Int) (f : Addr) (L : LamW) (cl : List (Str × Addr)) (g : Int → Bool), ds = [.int lo, .int hi, .obj f] ∧ 1 ≤ lo ∧ hi ≤ 1000000 ∧ (f, OV.lamc L cl) ∈ O ∧ VFn M 17 f (spFun O (domT g)) ∧ Φ (.int (firstI g lo hi)) O
abbrev nFirst : List Str := ["low", "high", "test", "middle"]
theorem sc_first : FnScope nFirst ["low", "high", "test"] (defScope (topS 66)) := ⟨rfl, rfl, rfl, by decide +kernel, rfl, by decide +kernel, by decide +kernel⟩
theorem ok_first {M : Mach} {f : Addr} {fd : FuncData} {k : Nat} (F : Fun M.K "first_of" "first_of" (topS 66) f fd) (hk : 17 ≤ k) : FnOk M.P M.w M.K M.mg M.base (L2N.CX M.P M.w) (k + 1) f fd ["low", "high", "test"] (liftSp M.K (spFirst M)) := by
  refine fn_body (N := nFirst) (vn := nFirst) (gl := []) F sc_first (by decide +kernel) (fun ds O Φ Ψ h => ?_) fun X B ds O Φ Ψ bd h => ?_
  · obtain ⟨_, _, _, _, _, _, rfl, _⟩ := h
    rfl
  obtain ⟨lo, hi, f, L, cl, g, rfl, b1, b2, hm, Fn, q⟩ := h
  have C := bd.C
  have hr : Room 17 X.A := bd.r.mono hk
  change WSs _ _ [some _, some _, some _, none] _ _ _
  refine wss_cons (ws_while C (fun m G' O' => ∃ (l h : Int) (g3 : Option D), m = (h + 1 - l).toNat ∧ G' = [some (.int l), some (.int h), some (.obj f), g3] ∧ O' = O ∧ firstI g l h = firstI g lo hi ∧ 1 ≤ l ∧ h ≤ 1000000) ⟨_, lo, hi, none, rfl, rfl, rfl, rfl, b1, b2⟩ ?_)
  rintro m G' O' ⟨l, h, g3, rfl, rfl, rfl, e1, b1, b2⟩
  refine wt_pv (by exists "et") (if_d (fun hq => ?_) (fun hq => ?_))
  · have hmid : l ≤ (l + h) / 2 ∧ (l + h) / 2 ≤ h := by omega
    rw [firstI_step g hq] at e1
    refine wss_cons (ws_set C (by exists "sa") (by decide +kernel) (we_pv (by exists "ev") ?_))
    exists "nx"
    refine wss_one (ws_ifv (c := g ((l + h) / 2)) (pt_ofv (pv_callV (L := L) (cl := cl) (O0 := O') (Ob := []) C (by exists "va") (by decide +kernel) Fn hr hm (by rw [List.append_nil]) (by exists "ea") ⟨_, by omega, by omega, rfl, rfl⟩)) (fun hg => ?_) fun hg => ?_)
    · rw [if_pos hg] at e1
      refine wss_one (ws_set C (by exists "sa") (by decide +kernel) (we_pv (by exists "ev") ?_))
      exists "nx"
      exact ⟨_, by omega, _, _, _, rfl, rfl, rfl, e1, by omega, by omega⟩
    · rw [hg, if_neg Bool.false_ne_true] at e1
      refine wss_one (ws_set C (by exists "sa") (by decide +kernel) (we_pv (by exists "ev") ?_))
      exists "nx"
      exact ⟨_, by omega, _, _, _, rfl, rfl, rfl, e1, by omega, by omega⟩
  · rw [firstI_end g (by omega)] at e1
    subst e1
    exact wss_one (ws_ret (we_pv (by exists "ev") q))
def bestF (th : Int → Int → Int) : List (Int × Int) → Int → Int → Option (Int × Int)
  | [], lo, hi => if lo ≤ hi then some (lo, hi) else none
  | x :: r, lo, hi => bestF th r (firstI (fun k => decide (x.2 ≤ th k x.1)) lo hi) (firstI (fun k => decide (x.2 < th k x.1)) (firstI (fun k => decide (x.2 ≤ th k x.1)) lo hi) hi - 1)
def eOP : Option (Int × Int) → D
  | none => .non
  | some r => .tup [.int r.1, .int r.2]
abbrev qBest : Str := "best_range.<locals>.<lambda>"
def spBest (M : Mach) (Pb : Addr) : DSp := fun ds O Φ _ => ∃ (fc ft : Addr) (seen : List (Int × Int)) (most : Int) (Oc : Own) (L1 L2 : LamW) (cl1 cl2 : List (Str × Addr)) (g : Int → Bool) (th : Int → Int → Int), ds = [.obj fc, .obj ft, .tup (seen.map ePr), .int most] ∧ O = (Pb, .tab qBest) :: Oc ∧ seen.length ≤ 1000 ∧
  (fc, OV.lamc L1 cl1) ∈ Oc ∧ (ft, OV.lamc L2 cl2) ∈ Oc ∧ VFn M 16 fc (spFun Oc (domT g)) ∧ VFn M 16 ft (spFun Oc (domTh th)) ∧ most ≤ 1000000 ∧ Φ (eOP (bestF th seen (firstI g 1 most) most)) O
abbrev nBest : List Str := ["covered", "there", "seen", "most", "low", "high", "time", "number", "first"]
theorem sc_best : FnScope nBest ["covered", "there", "seen", "most"] (defScope (topS 67)) := ⟨rfl, rfl, rfl, by decide +kernel, rfl, by decide +kernel, by decide +kernel⟩
theorem ok_best {M : Mach} {f : Addr} {fd : FuncData} {k : Nat} {c P : Addr} (F : Fun M.K "best_range" "best_range" (topS 67) f fd) (gf : GFn M "first_of" k (spFirst M)) (hcode : fd.code = .ref c) (TB : LamX.TabB M.base M.mg c P) : FnOk M.P M.w M.K M.mg M.base (L2N.CX M.P M.w) (k + 1) f fd ["covered", "there", "seen", "most"] (liftSp M.K (spBest M P)) := by
  refine fn_bodyC (N := nBest) (vn := nBest) (gl := ["first_of"]) F sc_best (by decide +kernel) (fun ds O Φ Ψ h => ?_) fun X B ds O Φ Ψ bd env h => ?_
  · obtain ⟨_, _, _, _, _, _, _, _, _, _, _, rfl, _⟩ := h
    rfl
  obtain ⟨fc, ft, seen, most, Oc, L1, L2, cl1, cl2, g, th, rfl, rfl, hsl, m1, m2, V1, V2, hmo, q⟩ := h
  obtain ⟨Ln, env⟩ := env
  have hq : X.env.qual ++ "<lambda>" = qBest := by
    rw [env]
    show (envOfC "best_range" (defScope (topS 67)) Ln f fd.code).qual ++ "<lambda>" = qBest
    rfl
  have hcode' : X.env.code = .ref c := by
    rw [env]
    exact hcode
  have C := bd.C
  have hmP : ∀ {O' : Own}, (P, OV.tab (X.env.qual ++ "<lambda>")) ∈ (P, OV.tab qBest) :: O' := by
    rw [hq]
    exact List.mem_cons_self
  change WSs _ _ [some _, some _, some _, some _, none, none, none, none, none] _ _ _
  have V1' := V1.mono (show 16 ≤ 17 by decide)
  refine wss_cons ?_
  exists "p2"
  refine wa_pv (d := [.int (firstI g 1 most), .int most]) (pa_consv (pv_callP (Oa := Oc) (Ob := [(P, _)]) (v := .int (firstI g 1 most)) (List.perm_append_singleton _ _).symm C gf bd.r (by decide +kernel) (by exists "ea") fun Φ' Ψ' z => ⟨1, most, fc, L1, cl1, g, rfl, Int.le_refl _, hmo, m1, V1', z⟩) (by exists "ea")) ⟨_, _, rfl, ?_⟩
  exists "nx"
  refine wss_cons (ws_for C (wi_v (wiv_tup (ds := seen.map ePr) (by exists "ev")) ⟨fun i G' O' => ∃ (lo hi : Int) (g6 g7 g8 : Option D), G' = [some (.obj fc), some (.obj ft), some (.tup (seen.map ePr)), some (.int most), some (.int lo), some (.int hi), g6, g7, g8] ∧ O' = (P, .tab qBest) :: Oc ∧ bestF th (seen.drop i) lo hi = bestF th seen (firstI g 1 most) most ∧ 1 ≤ lo ∧ lo ≤ 1000001 ∧ hi ≤ 1000000,
    ⟨_, _, _, _, _, rfl, rfl, rfl, firstI_lo _ _ _, firstI_hi (m := 1000000) _ (by decide) hmo, hmo⟩, fun _ _ _ _ _ p hp => (List.not_mem_nil hp).elim, ?_, ?_⟩))
  · rintro i d G' O' hd ⟨lo, hi, g6, g7, g8, rfl, rfl, e1, b1, b2, b3⟩
    obtain ⟨⟨t, n⟩, hx, rfl, hdr⟩ := map_at hd
    rw [hdr, bestF] at e1
    dsimp only at e1
    exists "t2"
    -- the first with so much
    have hx : ∀ {lo hi : Int} {g8 : Option D}, ∀ q ∈ ([("there", .obj ft), ("time", .int t), ("number", .int n)] : NDs), VarAt nBest [some (.obj fc), some (.obj ft), some (.tup (seen.map ePr)), some (.int most), some (.int lo), some (.int hi), some (.int t), some (.int n), g8] q.1 q.2 := fun {lo hi g8} q hq => by
      simp only [List.mem_cons, List.not_mem_nil, or_false] at hq
      rcases hq with rfl | rfl | rfl <;> exists "va"
    refine wss_cons (ws_set C (by exists "sa") (by decide +kernel) (we_callC ["there", "time", "number"] [("there", .obj ft), ("time", .int t), ("number", .int n)] C gf bd.r (by decide +kernel) hx rfl (by decide +kernel) (by decide +kernel) (wa_cons (we_pv (by exists "ev") (wa_cons (we_pv (by exists "ev") (wa_cons (we_lamC C TB hcode' hmP (by decide +kernel) fun f1 => wa_nil fun ca co lc => ?_))))))))
    refine ⟨_, _, .int (firstI (fun k => decide (n ≤ th k t)) lo hi), permA, fun Φ' Ψ' z => ⟨lo, hi, f1, _, _, _, rfl, b1, b3, List.mem_append_right _ List.mem_cons_self, ?_, z⟩, ?_⟩
    · refine vfn_clo (k := 16) (ps := ["k"]) (gl := []) lc ["there", "time", "number"] ["k", "there", "time", "number"] [("there", .obj ft), ("time", .int t), ("number", .int n)] rfl rfl (by decide +kernel) (by decide +kernel) (fun _ _ _ _ us hl => match us, hl with | [_], _ => rfl) (fun q hq => List.mem_map.mpr ⟨q, hq, rfl⟩) (List.Perm.refl _) List.mem_cons_self (fun ds v ⟨m, _, _, e, _⟩ => by rw [e] <;> rfl) fun X' B' ds v ⟨m, k1, k9, e1, e2⟩ lb => ?_
      subst e1 e2
      have C' := lb.C
      change PEv X' B' [some (.int m), some (.obj ft), some (.int t), some (.int n)] _ _ _
      exact pv_ge (pv_callV (L := L2) (cl := cl2) (O0 := Oc) (Ob := [(f1, _)]) C' (by exists "va") (by decide +kernel) V2 lb.r (List.mem_cons_of_mem _ m2) (List.perm_append_singleton _ _).symm (by exists "ea") ⟨m, t, k1, k9, rfl, rfl⟩) (by exists "ev")
    exists "nx"
    have hmP2 : ∀ {p1 : Addr × OV} {O' : Own}, (P, OV.tab (X.env.qual ++ "<lambda>")) ∈ p1 :: (P, OV.tab qBest) :: O' := fun {p1 O'} => List.mem_cons_of_mem _ hmP
    refine wss_cons (ws_set C (by exists "sa") (by decide +kernel) (we_op op_sub dop_I0 (we_callC ["there", "time", "number"] [("there", .obj ft), ("time", .int t), ("number", .int n)] C gf bd.r (by decide +kernel) hx rfl (by decide +kernel) (by decide +kernel) (wa_cons (we_pv (by exists "ev") (wa_cons (we_pv (by exists "ev") (wa_cons (we_lamC C TB hcode' hmP2 (by decide +kernel) fun f2 => wa_nil fun ca co lc => ?_)))))))))
    refine ⟨_, _, .int (firstI (fun k => decide (n < th k t)) (firstI (fun k => decide (n ≤ th k t)) lo hi) hi), permB, fun Φ' Ψ' z => ⟨_, hi, f2, _, _, _, rfl, Int.le_trans b1 (firstI_lo _ _ _), b3, List.mem_append_right _ List.mem_cons_self, ?_, z⟩, we_pv pv_int ⟨_, _, rfl, rfl, trivial, ?_⟩⟩
    · refine vfn_clo (k := 16) (ps := ["k"]) (gl := []) lc ["there", "time", "number"] ["k", "there", "time", "number"] [("there", .obj ft), ("time", .int t), ("number", .int n)] rfl rfl (by decide +kernel) (by decide +kernel) (fun _ _ _ _ us hl => match us, hl with | [_], _ => rfl) (fun q hq => List.mem_map.mpr ⟨q, hq, rfl⟩) (List.Perm.refl _) List.mem_cons_self (fun ds v ⟨m, _, _, e, _⟩ => by rw [e] <;> rfl) fun X' B' ds v ⟨m, k1, k9, e1, e2⟩ lb => ?_
      subst e1 e2
      have C' := lb.C
      change PEv X' B' [some (.int m), some (.obj ft), some (.int t), some (.int n)] _ _ _
      exact pv_gt (pv_callV (L := L2) (cl := cl2) (O0 := Oc) (Ob := [(f2, _)]) C' (by exists "va") (by decide +kernel) V2 lb.r (List.mem_cons_of_mem _ m2) (List.perm_append_singleton _ _).symm (by exists "ea") ⟨m, t, k1, k9, rfl, rfl⟩) (by exists "ev")
    exists "nx"
    refine wss_one (ws_less (ws_set C (by exists "sa") (by decide +kernel) (we_pv (by exists "ev") ?_)))
    exact ⟨(P, .tab qBest) :: Oc, List.Sublist.cons _ (List.Sublist.cons _ (List.Sublist.refl _)), _, _, _, _, _, rfl, rfl, e1, Int.le_trans b1 (firstI_lo _ _ _), firstI_hi (m := 1000000) _ b2 b3, by have := firstI_hi (m := 1000000) (fun k => decide (n < th k t)) (firstI_hi (m := 1000000) (fun k => decide (n ≤ th k t)) b2 b3) b3; omega⟩
  · rintro G' O' ⟨lo, hi, g6, g7, g8, rfl, rfl, e1, _, _, _⟩
    rw [List.length_map, List.drop_length, bestF] at e1
    refine wss_one (ws_ret (we_pv (PEv.to (pv_if (ca := decide (lo ≤ hi)) (by exists "et") (fun _ => by exists "ev") fun _ => by exists "ev") ?_) q))
    rw [← e1]
    by_cases c : lo ≤ hi
    · rw [decide_eq_true c, if_pos rfl, if_pos c] <;> rfl
    · rw [decide_eq_false c, if_neg Bool.false_ne_true, if_neg c] <;> rfl
structure OkSeen (seen : List (Int × Int)) : Prop where
  l1 : 1 ≤ seen.length
  l2 : seen.length ≤ 10
  ok : ∀ r ∈ seen, 0 ≤ r.1 ∧ r.1 ≤ 12000 ∧ 0 ≤ r.2 ∧ r.2 ≤ 1000000000
abbrev nSeen : List Str := ["seen", "row"]
abbrev gSeen : List Str := ["isinstance", "tuple", "len", "MOST_SEEN", "is_from", "LAST_MOMENT", "MOST_BALANCE", "InvalidSeen"]
def spNeedSeen : DSp := fun ds O Φ _ => ∃ seen : List (Int × Int), ds = [.tup (seen.map ePr)] ∧ OkSeen seen ∧ Φ .non O
theorem sc_needseen : FnScope nSeen ["seen"] (defScope (topS 65)) := ⟨rfl, rfl, rfl, by decide +kernel, rfl, by decide +kernel, by decide +kernel⟩
theorem ok_needseen {M : Mach} {f : Addr} {fd : FuncData} {k : Nat} (F : Fun M.K "need_seen" "need_seen" (topS 65) f fd) (h1 : M.mg "isinstance" = none) (h2 : M.mg "tuple" = none) (h3 : M.mg "len" = none) (h4 : ∃ t, M.mg "MOST_SEEN" = some (.int 10 t)) (h5 : ∃ t, M.mg "LAST_MOMENT" = some (.int 12000 t)) (h6 : ∃ t, M.mg "MOST_BALANCE" = some (.int 1000000000 t)) (gi : GFn M "is_from" k spIsFrom) :
    FnOk M.P M.w M.K M.mg M.base (L2N.CX M.P M.w) (k + 1) f fd ["seen"] (liftSp M.K spNeedSeen) := by
  refine fn_body (N := nSeen) (vn := nSeen) (gl := gSeen) F sc_needseen (by decide +kernel) (fun ds O Φ Ψ h => ?_) fun X B ds O Φ Ψ bd h => ?_
  · obtain ⟨_, rfl, _⟩ := h
    rfl
  obtain ⟨seen, rfl, ok, q⟩ := h
  have C := bd.C
  have l1 := ok.l1
  have l2 := ok.l2
  change WSs _ _ [some _, none] _ _ _
  refine wss_cons (ws_ifv (c := false) (PWv.t (PWv.to (pwv_or (ca := false) (cb := false) (PTv.to (pt_notv (ca := true) (pt_ofv (by exists "ev"))) rfl) fun _ => pwv_or1 (PTv.to (pt_notv (ca := true) (PTv.to (pt_leLe (by exists "ev") (by exists "ev") (by exists "ev")) ?_)) rfl)) rfl)) (fun h => by cases h) fun _ => wss_nil ?_)
  · rw [List.length_map, decide_eq_true (by omega), decide_eq_true (by omega)] <;> rfl
  exists "nx"
  refine wss_one (ws_for C (wi_v (wiv_tup (ds := seen.map ePr) (by exists "ev")) ⟨fun i G' O' => ∃ g1 : Option D, G' = [some (.tup (seen.map ePr)), g1] ∧ O' = O, ⟨_, rfl, rfl⟩, fun _ _ _ _ _ p hp => (List.not_mem_nil hp).elim, ?_, ?_⟩))
  · rintro i d G' O' hd ⟨g1, rfl, rfl⟩
    obtain ⟨⟨t, n⟩, hx, rfl, hdr⟩ := map_at hd
    obtain ⟨a1, a2, a3, a4⟩ := ok.ok _ (List.mem_of_getElem? hx)
    exists "t1"
    refine wss_cons (ws_ifv (c := false) (PWv.t (PWv.to (pwv_or (ca := false) (cb := false) (PTv.to (pt_notv (ca := true) (pt_ofv (by exists "ev"))) rfl) fun _ => pwv_or (ca := false) (cb := false) (PTv.to (pt_ne (pv_len C (by exists "ev") .tup h3 (by decide +kernel)) (by exists "ev") rfl) rfl) fun _ => pwv_or1 (PTv.to (pt_notv (ca := true) (pt_ofv (PEv.to (pv_call C gi bd.r (by decide +kernel) (by exists "ea") fun Φ Ψ z => ⟨_, _, _, _, rfl, .int _, z⟩) (congrArg D.bl ?_)))) rfl)) rfl)) (fun h => by cases h) fun _ => wss_nil ?_)
    · show (decide (0 ≤ t) && decide (t ≤ 12000)) = true
      rw [decide_eq_true a1, decide_eq_true a2] <;> rfl
    exists "nx"
    refine wss_one (ws_ifv (c := false) (PTv.to (pt_notv (ca := true) (pt_ofv (PEv.to (pv_call C gi bd.r (by decide +kernel) (by exists "ea") fun Φ Ψ z => ⟨_, _, _, _, rfl, .int _, z⟩) (congrArg D.bl ?_)))) rfl) (fun h => by cases h) fun _ => wss_nil ⟨_, rfl, rfl⟩)
    show (decide (0 ≤ n) && decide (n ≤ 1000000000)) = true
    rw [decide_eq_true a3, decide_eq_true a4] <;> rfl
  · rintro G' O' ⟨g1, rfl, rfl⟩
    exact q
abbrev qFit : Str := "fit_life.<locals>.<lambda>"
def covF (log : List Ev) (life : Int) : Bool := (playF life 10000 log).2.2.2.isNone
def thF (log : List Ev) (life t : Int) : Int := total (playF life t log).1
def fitF (log : List Ev) (seen : List (Int × Int)) : Option (Int × Int) := bestF (thF log) seen (firstI (covF log) 1 1000) 1000
def spFit (Pf Pb : Addr) : DSp := fun ds O Φ _ => ∃ (log : List Ev) (seen : List (Int × Int)), ds = [.tup (log.map eEv), .tup (seen.map ePr)] ∧ O = [(Pf, .tab qFit), (Pb, .tab qBest)] ∧ OkLog log ∧ OkSeen seen ∧ Φ (eOP (fitF log seen)) O
abbrev nFit : List Str := ["log", "seen", "covered"]
theorem sc_fit : FnScope nFit ["log", "seen"] (defScope (topS 68)) := ⟨rfl, rfl, rfl, by decide +kernel, rfl, by decide +kernel, by decide +kernel⟩
theorem eOpt_isNon (r : Option Nat) : isNon (eOpt r) = r.isNone := by cases r <;> rfl
theorem ok_fit {M : Mach} {f : Addr} {fd : FuncData} {k : Nat} {c P R : Addr} (F : Fun M.K "fit_life" "fit_life" (topS 68) f fd) (h1 : ∃ t, M.mg "LONGEST_LIFE" = some (.int 1000 t)) (g1 : GFn M "need_log" k spNeedLog) (g2 : GFn M "need_seen" k spNeedSeen) (gr : GFn M "refused_at" 15 spRefusedAt) (gt : GFn M "balance_of" 15 spThere) (gb : GFn M "best_range" k (spBest M R))
    (hcode : fd.code = .ref c) (TB : LamX.TabB M.base M.mg c P) : FnOk M.P M.w M.K M.mg M.base (L2N.CX M.P M.w) (k + 1) f fd ["log", "seen"] (liftSp M.K (spFit P R)) := by
  refine fn_bodyC (N := nFit) (vn := nFit) (gl := ["need_log", "need_seen", "best_range", "LONGEST_LIFE"]) F sc_fit (by decide +kernel) (fun ds O Φ Ψ h => ?_) fun X B ds O Φ Ψ bd env h => ?_
  · obtain ⟨_, _, rfl, _⟩ := h
    rfl
  obtain ⟨log, seen, rfl, rfl, ok, oks, q⟩ := h
  obtain ⟨Ln, env⟩ := env
  have hq : X.env.qual ++ "<lambda>" = qFit := by
    rw [env]
    show (envOfC "fit_life" (defScope (topS 68)) Ln f fd.code).qual ++ "<lambda>" = qFit
    rfl
  have hcode' : X.env.code = .ref c := by
    rw [env]
    exact hcode
  have C := bd.C
  have hmP : ∀ {O' : Own}, (P, OV.tab (X.env.qual ++ "<lambda>")) ∈ (P, OV.tab qFit) :: O' := by
    rw [hq]
    exact List.mem_cons_self
  have hmP2 : ∀ {p1 : Addr × OV} {O' : Own}, (P, OV.tab (X.env.qual ++ "<lambda>")) ∈ p1 :: (P, OV.tab qFit) :: O' := fun {p1 O'} => List.mem_cons_of_mem _ hmP
  change WSs _ _ [some _, some _, none] _ _ _
  refine wss_cons (ws_expr (we_pv (pv_call C g1 bd.r (by decide +kernel) (by exists "ea") fun Φ Ψ z => ⟨log, rfl, ok, z⟩) ?_))
  exists "nx"
  refine wss_cons (ws_expr (we_pv (pv_call C g2 bd.r (by decide +kernel) (by exists "ea") fun Φ Ψ z => ⟨seen, rfl, oks, z⟩) ?_))
  exists "nx"
  refine wss_cons (ws_set C (by exists "sa") (by decide +kernel) (we_lamC C TB hcode' hmP (by decide +kernel) fun f1 => ?_))
  exists "nx"
  have hx : ∀ q ∈ ([("log", .tup (log.map eEv))] : NDs), VarAt nFit [some (.tup (log.map eEv)), some (.tup (seen.map ePr)), some (.obj f1)] q.1 q.2 := fun q hq => by
    simp only [List.mem_cons, List.not_mem_nil, or_false] at hq
    subst hq
    exists "va"
  refine wss_one (ws_ret (we_less (we_callC ["log"] [("log", .tup (log.map eEv))] C gb bd.r (by decide +kernel) hx rfl (by decide +kernel) (by decide +kernel) (wa_cons (we_pv (by exists "ev") (wa_cons (we_lamC C TB hcode' hmP2 (by decide +kernel) fun f2 => wa_pv (by exists "ea") fun ca co lc => ?_)))))))
  refine ⟨_, _, eOP (fitF log seen), permC, fun Φ' Ψ' z => ⟨f1, f2, seen, 1000, _, _, _, _, _, covF log, thF log, rfl, rfl, by have := oks.l2; omega, List.mem_append_right _ (List.mem_cons_of_mem _ List.mem_cons_self), List.mem_append_right _ List.mem_cons_self, ?_, ?_, by decide, z⟩, _, List.Sublist.cons _ (List.Sublist.cons _ (List.Sublist.refl _)), q⟩
  · refine vfn_clo (k := 15) (ps := ["life"]) (gl := ["refused_at"]) lc ["log"] ["life", "log"] [("log", .tup (log.map eEv))] rfl rfl (by decide +kernel) (by decide +kernel) (fun _ _ _ _ us hl => match us, hl with | [_], _ => rfl) (fun q hq => List.mem_map.mpr ⟨q, hq, rfl⟩) (List.Perm.refl _) (List.mem_cons_of_mem _ List.mem_cons_self) (fun ds v ⟨m, _, _, e, _⟩ => by rw [e] <;> rfl) fun X' B' ds v ⟨m, _, _, e1, e2⟩ lb => ?_
    subst e1 e2
    have C' := lb.C
    change PEv X' B' [some (.int m), some (.tup (log.map eEv))] _ _ _
    exact PEv.to (pv_is (pv_call C' gr lb.r (by decide +kernel) (by exists "ea") fun Φ Ψ z => ⟨log, m, rfl, ok, z⟩) (by exists "ev")) (congrArg D.bl (eOpt_isNon _))
  · refine vfn_clo (k := 15) (ps := ["life", "time"]) (gl := ["balance_of"]) lc ["log"] ["life", "time", "log"] [("log", .tup (log.map eEv))] rfl rfl (by decide +kernel) (by decide +kernel) (fun _ _ _ _ us hl => match us, hl with | [_, _], _ => rfl) (fun q hq => List.mem_map.mpr ⟨q, hq, rfl⟩) (List.Perm.refl _) List.mem_cons_self (fun ds v ⟨m, t, _, _, e, _⟩ => by rw [e] <;> rfl) fun X' B' ds v ⟨m, t, _, _, e1, e2⟩ lb => ?_
    subst e1 e2
    have C' := lb.C
    change PEv X' B' [some (.int m), some (.int t), some (.tup (log.map eEv))] _ _ _
    exact pv_call C' gt lb.r (by decide +kernel) (by exists "ea") fun Φ Ψ z => ⟨log, m, t, rfl, ok, z⟩
theorem sumBy_perm {α : Type} {f : α → Int} {p : α → Bool} {xs ys : List α} (h : xs.Perm ys) : sumBy f p xs = sumBy f p ys := by
  induction h with
  | nil => rfl
  | cons x _ ih => rw [sumBy_cons, sumBy_cons, ih]
  | swap x y l =>
    rw [sumBy_cons, sumBy_cons, sumBy_cons, sumBy_cons]
    omega
  | trans _ _ h1 h2 => rw [h1, h2]
theorem sumBy_flat {α : Type} {f : α → Int} {p : α → Bool} : ∀ ls : List (List α), sumBy f p ls.flatten = (ls.map (sumBy f p)).sum
  | [] => rfl
  | l :: r => by
    rw [List.flatten_cons, sumBy_app, sumBy_flat r, List.map_cons, List.sum_cons]
theorem sum_le3 {α : Type} {a b c : α → Int} : ∀ {ls : List α}, (∀ l ∈ ls, 0 ≤ a l - b l - c l) → 0 ≤ (ls.map a).sum - (ls.map b).sum - (ls.map c).sum
  | [], _ => by simp
  | l :: r, h => by
    have h1 := h l List.mem_cons_self
    have h2 := sum_le3 (ls := r) fun x hx => h x (List.mem_cons_of_mem _ hx)
    rw [List.map_cons, List.map_cons, List.map_cons, List.sum_cons, List.sum_cons, List.sum_cons]
    omega
theorem sum_sub {α : Type} {a b c : α → Int} : ∀ {ls : List α}, (∀ l ∈ ls, c l = a l - b l) → (ls.map c).sum = (ls.map a).sum - (ls.map b).sum
  | [], _ => by simp
  | l :: r, h => by
    have h1 := h l List.mem_cons_self
    have h2 := sum_sub (ls := r) fun x hx => h x (List.mem_cons_of_mem _ hx)
    rw [List.map_cons, List.map_cons, List.map_cons, List.sum_cons, List.sum_cons, List.sum_cons]
    omega
/-- the logs' events in order, earnings ahead of spendings of the same time -/
structure Mg (logs : List (List Ev)) (L : List Ev) : Prop where
  perm : L.Perm logs.flatten
  asc : AscE L
  ord : L.Pairwise fun a b => a.2.1 = b.2.1 → b.1 = true → a.1 = true
section
variable {logs : List (List Ev)} {L : List Ev} {span : Int}
theorem Mg.sum (g : Mg logs L) (p : Ev → Bool) : sumBy eam p L = (logs.map (sumBy eam p)).sum := by
  rw [sumBy_perm g.perm, sumBy_flat]
theorem Mg.value (g : Mg logs L) (m : Int) : valueF L span m = (logs.map fun l => valueF l span m).sum := by
  rw [valueF_sumBy, g.sum, g.sum]
  exact (sum_sub fun l _ => valueF_sumBy l span m).symm
theorem run_snoc {life til : Int} : ∀ (xs ys : List Ev) (i : Nat) (ls gs : List Lot) (ts : List Tk), (runF life til i xs ls gs ts).2.2.2 = none → runF life til i (xs ++ ys) ls gs ts = runF life til (i + xs.length) ys (runF life til i xs ls gs ts).1 (runF life til i xs ls gs ts).2.1 (runF life til i xs ls gs ts).2.2.1
  | [], _, _, _, _, _, _ => rfl
  | e :: r, ys, i, ls, gs, ts, h => by
    have el : i + (e :: r).length = i + 1 + r.length := by rw [List.length_cons]; omega
    rw [el]
    rw [runF] at h
    rw [List.cons_append, runF, runF]
    split at h
    · rename_i c
      rw [if_pos c, if_pos c]
      split at h
      · rename_i c2
        rw [if_pos c2, if_pos c2]
        exact run_snoc r ys (i + 1) _ _ _ h
      · rename_i c2
        rw [if_neg c2, if_neg c2]
        split at h
        · cases h
        · rename_i c3
          rw [if_neg c3, if_neg c3]
          exact run_snoc r ys (i + 1) _ _ _ h
    · rename_i c
      rw [if_neg c, if_neg c]
      exact run_snoc r ys (i + 1) _ _ _ h
/-- what is there ahead of a spending is enough for it -/
theorem Mg.cover (g : Mg logs L) (hp : ∀ l ∈ logs, PosW l span) {P R : List Ev} {t n : Int} (e : L = P ++ (false, t, n) :: R) (hP : PosW P span) (t0 : 0 ≤ t) (t1 : t ≤ 10000) : n ≤ total (playF span t P).1 := by
  have s1 := hP.s1
  have asc := g.asc
  have ord := g.ord
  rw [e] at asc ord
  obtain ⟨a1, a2, a3⟩ := List.pairwise_append.mp asc
  obtain ⟨b1, b2⟩ := List.pairwise_cons.mp a2
  obtain ⟨o1, o2, o3⟩ := List.pairwise_append.mp ord
  obtain ⟨q1, q2⟩ := List.pairwise_cons.mp o2
  have hR : ∀ x ∈ R, t ≤ x.2.1 ∧ (x.2.1 ≤ t → x.1 = false) := fun x hx => by
    have h1 := b1 x hx
    dsimp only at h1
    refine ⟨h1, fun h2 => ?_⟩
    cases hk : x.1 with
    | false => rfl
    | true =>
      have z := q1 x hx (by show t = x.2.1; omega) hk
      cases z
  have hPt : ∀ x ∈ P, x.2.1 ≤ t := fun x hx => a3 x hx _ List.mem_cons_self
  -- earned, spent until t
  have eE : sumBy eam (fun e => decide (e.2.1 ≤ t) && isE e) L = sumBy eam (fun e => decide (e.2.1 ≤ t) && isE e) P := by
    rw [e, sumBy_app, sumBy_cons, sumBy_none (xs := R) fun x hx => ?_]
    · show _ + ((if (decide (t ≤ t) && false) = true then n else 0) + 0) = _
      rw [Bool.and_false, if_neg Bool.false_ne_true]
      omega
    · by_cases c : x.2.1 ≤ t
      · show (decide _ && x.1) = false
        rw [(hR x hx).2 c, Bool.and_false]
      · rw [decide_eq_false c, Bool.false_and]
  have eS : sumBy eam (fun e => decide (e.2.1 ≤ t) && isS e) P + n ≤ sumBy eam (fun e => decide (e.2.1 ≤ t) && isS e) L := by
    have nn : 0 ≤ sumBy eam (fun e => decide (e.2.1 ≤ t) && isS e) R := sumBy_nonneg fun x hx => by
      have hm : x ∈ L := by rw [e]; exact List.mem_append_right _ (List.mem_cons_of_mem _ hx)
      obtain ⟨l, hl, hxl⟩ := List.mem_flatten.mp (g.perm.mem_iff.mp hm)
      have := ((hp l hl).ev x hxl).2.2
      exact Int.le_of_lt this
    rw [e, sumBy_app, sumBy_cons]
    show _ ≤ _ + ((if (decide (t ≤ t) && true) = true then n else 0) + _)
    rw [decide_eq_true (Int.le_refl t), Bool.and_true, if_pos rfl]
    omega
  have eV : ∀ m, m ≤ t → valueF L span m = valueF P span m := fun m hm => by
    rw [valueF_sumBy, valueF_sumBy, e, sumBy_app, sumBy_app]
    have z : ∀ x ∈ (false, t, n) :: R, t ≤ x.2.1 := fun x hx => by
      rcases List.mem_cons.mp hx with rfl | hx
      · exact Int.le_refl _
      · exact (hR x hx).1
    rw [sumBy_none (xs := (false, t, n) :: R) fun x hx => by rw [decide_eq_false (by have := z x hx; omega), Bool.and_false], sumBy_none (xs := (false, t, n) :: R) fun x hx => by rw [decide_eq_false (by have := z x hx; omega), Bool.and_false]]
    omega
  have bal := hP.bal t0 (by omega : t ≤ 12000)
  have each : ∀ l ∈ logs, 0 ≤ sumBy eam (fun e => decide (e.2.1 ≤ t) && isE e) l - sumBy eam (fun e => decide (e.2.1 ≤ t) && isS e) l - LF l span t := fun l hl => by
    rw [← (hp l hl).bal t0 (by omega : t ≤ 12000)]
    exact ((hp l hl).inv t0).2.pos.total
  rw [bal]
  rcases LF_at hP t with h | ⟨x, _, x1, x2, x3⟩
  · rw [h]
    have z := sum_le3 (ls := logs) (a := sumBy eam fun e => decide (e.2.1 ≤ t) && isE e) (b := sumBy eam fun e => decide (e.2.1 ≤ t) && isS e) (c := fun _ => 0) fun l hl => by
      have h1 := each l hl
      have h2 := LF_nonneg (hp l hl) t
      omega
    rw [← g.sum, ← g.sum] at z
    have z0 : ∀ ls : List (List Ev), (ls.map fun _ => (0 : Int)).sum = 0 := fun ls => by
      induction ls with
      | nil => rfl
      | cons _ _ ih => rw [List.map_cons, List.sum_cons, ih]; rfl
    rw [z0] at z
    omega
  · rw [x2, ← x3, ← eV _ x1, g.value]
    have z := sum_le3 (ls := logs) (a := sumBy eam fun e => decide (e.2.1 ≤ t) && isE e) (b := sumBy eam fun e => decide (e.2.1 ≤ t) && isS e) (c := fun l => valueF l span x.1) fun l hl => by
      have h1 := each l hl
      have h2 := LF_value (hp l hl) (s := x.1) (by omega)
      have h3 := LF_mono (hp l hl) x1
      omega
    rw [← g.sum, ← g.sum] at z
    omega
theorem Mg.posw (g : Mg logs L) (hp : ∀ l ∈ logs, PosW l span) (s1 : 1 ≤ span) (s2 : span ≤ 1000) : PosW L span := by
  have ev : ∀ e ∈ L, 0 ≤ e.2.1 ∧ e.2.1 ≤ 10000 ∧ 0 < e.2.2 := fun e he => by
    obtain ⟨l, hl, hx⟩ := List.mem_flatten.mp (g.perm.mem_iff.mp he)
    exact (hp l hl).ev e hx
  have step : ∀ k, k ≤ L.length → (runF span 10000 0 (L.take k) [] [] []).2.2.2 = none := by
    intro k
    induction k with
    | zero => exact fun _ => rfl
    | succ k ih =>
      intro hk
      have no := ih (by omega)
      obtain ⟨⟨kd, t, n⟩, hx⟩ : ∃ e, L[k]'(by omega) = e := ⟨_, rfl⟩
      have hat : L[k]? = some (kd, t, n) := by rw [List.getElem?_eq_getElem (by omega), hx]
      have he := ev _ (List.mem_of_getElem? hat)
      dsimp only at he
      have tk : L.take (k + 1) = L.take k ++ [(kd, t, n)] := by
        rw [List.take_succ, hat]
        rfl
      rw [tk, run_snoc _ _ _ _ _ _ no]
      cases kd with
      | true =>
        rw [runF_earn he.2.1]
        rfl
      | false =>
        have eL : L = L.take k ++ (false, t, n) :: L.drop (k + 1) := by
          have z := List.take_append_drop k L
          rw [List.drop_eq_getElem_cons (by omega), hx] at z
          exact z.symm
        have asc := g.asc
        rw [eL] at asc
        obtain ⟨a1, _, a3⟩ := List.pairwise_append.mp asc
        have hP : PosW (L.take k) span := ⟨fun e he => ev e (List.mem_of_mem_take he), a1, by unfold playF endF; rw [no], s1, s2⟩
        have cv := g.cover hp eL hP he.1 he.2.1
        have er : runF span t 0 (L.take k) [] [] [] = runF span 10000 0 (L.take k) [] [] [] := run_til _ _ _ _ _ fun e h => ⟨a3 e h _ List.mem_cons_self, (ev e (List.mem_of_mem_take h)).2.1⟩
        unfold playF endF at cv
        rw [er, no] at cv
        rw [runF_spend he.2.1 cv]
        rfl
  have no := step L.length (Nat.le_refl _)
  rw [List.take_length] at no
  exact ⟨ev, g.asc, by unfold playF endF; rw [no], s1, s2⟩
theorem Mg.bal (g : Mg logs L) (hp : ∀ l ∈ logs, PosW l span) (s1 : 1 ≤ span) (s2 : span ≤ 1000) {u : Int} (u0 : 0 ≤ u) (u1 : u ≤ 12000) : total (playF span u L).1 = (logs.map fun l => goneBy l span u).sum - goneBy L span u + (logs.map fun l => total (playF span u l).1).sum := by
  have hL := g.posw hp s1 s2
  rw [hL.bal u0 u1, LF_gone hL u0 u1, g.sum, g.sum]
  have e1 := sum_sub (ls := logs) (c := fun l => total (playF span u l).1 + goneBy l span u) (a := sumBy eam fun e => decide (e.2.1 ≤ u) && isE e) (b := sumBy eam fun e => decide (e.2.1 ≤ u) && isS e) fun l hl => by
    rw [(hp l hl).bal u0 u1, LF_gone (hp l hl) u0 u1]
    omega
  have e2 : ∀ ls : List (List Ev), (ls.map fun l => total (playF span u l).1 + goneBy l span u).sum = (ls.map fun l => total (playF span u l).1).sum + (ls.map fun l => goneBy l span u).sum := fun ls => by
    induction ls with
    | nil => rfl
    | cons l r ih => rw [List.map_cons, List.map_cons, List.map_cons, List.sum_cons, List.sum_cons, List.sum_cons, ih]; omega
  rw [e2] at e1
  omega
end
def kE (e : Ev) (p i : Nat) : K4 := (e.2.1, (if e.1 = true then 0 else 1), (p : Int), (i : Int))
def rows1 (p : Nat) : Nat → List Ev → List (K4 × Ev)
  | _, [] => []
  | i, e :: r => (kE e p i, e) :: rows1 p (i + 1) r
def rowsL : Nat → List (List Ev) → List (K4 × Ev)
  | _, [] => []
  | p, l :: r => rows1 p 0 l ++ rowsL (p + 1) r
theorem rows1_ev (p : Nat) : ∀ (l : List Ev) (i : Nat), (rows1 p i l).map (·.2) = l
  | [], _ => rfl
  | e :: r, i => by rw [rows1, List.map_cons, rows1_ev p r]
theorem rowsL_ev : ∀ (logs : List (List Ev)) (p : Nat), (rowsL p logs).map (·.2) = logs.flatten
  | [], _ => rfl
  | l :: r, p => by rw [rowsL, List.map_append, rows1_ev, rowsL_ev r, List.flatten_cons]
theorem rows1_mem {p : Nat} : ∀ {l : List Ev} {i : Nat} {x : K4 × Ev}, x ∈ rows1 p i l → ∃ j, i ≤ j ∧ x.1 = kE x.2 p j
  | e :: r, i, x, h => by
    rcases List.mem_cons.mp (show x ∈ (kE e p i, e) :: rows1 p (i + 1) r from h) with rfl | h
    · exact ⟨i, Nat.le_refl _, rfl⟩
    · obtain ⟨j, h1, h2⟩ := rows1_mem h
      exact ⟨j, by omega, h2⟩
theorem rowsL_mem : ∀ {logs : List (List Ev)} {p : Nat} {x : K4 × Ev}, x ∈ rowsL p logs → ∃ q j, p ≤ q ∧ x.1 = kE x.2 q j
  | l :: r, p, x, h => by
    rcases List.mem_append.mp (show x ∈ rows1 p 0 l ++ rowsL (p + 1) r from h) with h | h
    · obtain ⟨j, _, h2⟩ := rows1_mem h
      exact ⟨p, j, Nat.le_refl _, h2⟩
    · obtain ⟨q, j, h1, h2⟩ := rowsL_mem h
      exact ⟨q, j, by omega, h2⟩
theorem rows1_nd {p : Nat} : ∀ (l : List Ev) (i : Nat), ((rows1 p i l).map (·.1)).Nodup
  | [], _ => List.nodup_nil
  | e :: r, i => by
    rw [rows1, List.map_cons]
    refine List.nodup_cons.mpr ⟨fun hm => ?_, rows1_nd r (i + 1)⟩
    obtain ⟨x, hx, e1⟩ := List.mem_map.mp hm
    obtain ⟨j, h1, h2⟩ := rows1_mem hx
    rw [h2] at e1
    have z : ((j : Nat) : Int) = (i : Int) := congrArg (fun k : K4 => k.2.2.2) e1
    omega
theorem rowsL_nd : ∀ (logs : List (List Ev)) (p : Nat), ((rowsL p logs).map (·.1)).Nodup
  | [], _ => List.nodup_nil
  | l :: r, p => by
    rw [rowsL, List.map_append]
    refine List.nodup_append.mpr ⟨rows1_nd l 0, rowsL_nd r (p + 1), fun a ha b hb e => ?_⟩
    obtain ⟨x, hx, rfl⟩ := List.mem_map.mp ha
    obtain ⟨y, hy, rfl⟩ := List.mem_map.mp hb
    obtain ⟨j, _, h2⟩ := rows1_mem hx
    obtain ⟨q, j2, h3, h4⟩ := rowsL_mem hy
    rw [h2, h4] at e
    have z : ((p : Nat) : Int) = (q : Int) := congrArg (fun k : K4 => k.2.2.1) e
    omega
abbrev SrtK (out : List (K4 × Ev)) : Prop := (out.map (·.1)).Pairwise fun e f => lex4 f e = false
theorem srt_mg {logs : List (List Ev)} {out : List (K4 × Ev)} (p : out.Perm (rowsL 0 logs)) (s : SrtK out) : Mg logs (out.map (·.2)) := by
  have hk : ∀ x ∈ out, x.1.1 = x.2.2.1 ∧ x.1.2.1 = (if x.2.1 = true then 0 else 1) := fun x hx => by
    obtain ⟨q, j, _, h⟩ := rowsL_mem (p.mem_iff.mp hx)
    rw [h]
    exact ⟨rfl, rfl⟩
  have s := List.pairwise_map.mp s
  refine ⟨?_, ?_, ?_⟩
  · have z := p.map (·.2)
    rw [rowsL_ev] at z
    exact z
  · refine List.pairwise_map.mpr (s.imp_of_mem fun {a b} ha hb h => ?_)
    have z := lex4_no.mp h
    rw [← (hk a ha).1, ← (hk b hb).1]
    omega
  · refine List.pairwise_map.mpr (s.imp_of_mem fun {a b} ha hb h => fun h1 h2 => ?_)
    have z := lex4_no.mp h
    rw [← (hk a ha).1, ← (hk b hb).1] at h1
    have e2 := (hk b hb).2
    rw [if_pos h2] at e2
    have e1 := (hk a ha).2
    cases c : a.2.1 with
    | true => rfl
    | false =>
      rw [c, if_neg Bool.false_ne_true] at e1
      omega
abbrev eLg (l : List Ev) : D := .tup (l.map eEv)
abbrev eRow (r : K4 × Ev) : D := dR4 (r.1, eEv r.2)
def spPut : DSp := fun ds O Φ _ => ∃ logs : List (List Ev), ds = [.tup (logs.map eLg)] ∧ O = [] ∧ logs.length ≤ 100 ∧ (∀ l ∈ logs, l.length ≤ 100) ∧ ∀ out : List (K4 × Ev), out.Perm (rowsL 0 logs) → SrtK out → Φ (.tup ((out.map fun r => r.2).map eEv)) []
theorem rows1_len (p : Nat) : ∀ (l : List Ev) (i : Nat), (rows1 p i l).length = l.length
  | [], _ => rfl
  | e :: r, i => by rw [rows1, List.length_cons, List.length_cons, rows1_len p r]
theorem rowsL_len : ∀ (logs : List (List Ev)) (p : Nat), (∀ l ∈ logs, l.length ≤ 100) → (rowsL p logs).length ≤ 100 * logs.length
  | [], _, _ => Nat.le_refl _
  | l :: r, p, h => by
    rw [rowsL, List.length_append, rows1_len, List.length_cons]
    have := rowsL_len r (p + 1) fun x hx => h x (List.mem_cons_of_mem _ hx)
    have := h l List.mem_cons_self
    omega
abbrev nPut : List Str := ["logs", "rows", "place", "log", "index", "event", "row"]
theorem sc_put : FnScope nPut ["logs"] (defScope (topS 46)) := ⟨rfl, rfl, rfl, by decide +kernel, rfl, by decide +kernel, by decide +kernel⟩
theorem kW_spendI (e : Ev) : (if decide (kW e.1 = "spend") = true then (1 : Int) else 0) = (if e.1 = true then 0 else 1) := by
  rw [kW_spend]
  cases e.1 <;> rfl
theorem ok_put {M : Mach} {f : Addr} {fd : FuncData} {k : Nat} (F : Fun M.K "put_together" "put_together" (topS 46) f fd) (h1 : M.mg "enumerate" = none) (h2 : M.mg "int" = none) (h3 : M.mg "sorted" = none) (h4 : M.mg "tuple" = none) :
    FnOk M.P M.w M.K M.mg M.base (L2N.CX M.P M.w) (k + 1) f fd ["logs"] (liftSp M.K spPut) := by
  refine fn_body (N := nPut) (vn := ["logs", "rows", "place", "log", "index", "event"]) (gl := ["enumerate", "int", "sorted", "tuple"]) F sc_put (by decide +kernel) (fun ds O Φ Ψ h => ?_) fun X B ds O Φ Ψ bd h => ?_
  · obtain ⟨_, rfl, _⟩ := h
    rfl
  obtain ⟨logs, rfl, rfl, hl, hls, q⟩ := h
  have C := bd.C
  have hrl := rowsL_len logs 0 hls
  change WSs _ _ [some _, none, none, none, none, none, none] _ _ _
  refine wss_cons (ws_set C (by exists "sa") (by decide +kernel) (we_own (wn_pv (pn_lst pa_nilv) fun p => ?_)))
  exists "nx"
  refine wss_cons (ws_for C (wi_v (wiv_enumT (ds := logs.map eLg) C h1 (by decide +kernel) (by exists "ev")) ⟨fun i G' O' => ∃ (acc : List (K4 × Ev)) (g2 g3 g4 g5 : Option D), G' = [some (.tup (logs.map eLg)), some (.obj p), g2, g3, g4, g5, none] ∧ O' = [(p, .lst (acc.map eRow))] ∧ acc ++ rowsL i (logs.drop i) = rowsL 0 logs, ⟨[], _, _, _, _, rfl, rfl, rfl⟩,
    fun _ _ _ _ _ p hp => (List.not_mem_nil hp).elim, ?_, ?_⟩))
  · rintro i d G' O' hd ⟨acc, g2, g3, g4, g5, rfl, rfl, e1⟩
    obtain ⟨l, hx, rfl, hdr⟩ := enum_at hd
    have hll := hls l (List.mem_of_getElem? hx)
    rw [hdr, rowsL] at e1
    exists "t2"
    refine wss_one (ws_for C (wi_v (wiv_enumT (ds := l.map eEv) C h1 (by decide +kernel) (by exists "ev")) ⟨fun j G' O' => ∃ (ac2 : List (K4 × Ev)) (g4 g5 : Option D), G' = [some (.tup (logs.map eLg)), some (.obj p), some (.int (i : Int)), some (.tup (l.map eEv)), g4, g5, none] ∧ O' = [(p, .lst (ac2.map eRow))] ∧ ac2 ++ (rows1 i j (l.drop j) ++ rowsL (i + 1) (logs.drop (i + 1))) = rowsL 0 logs, ⟨acc, _, _, rfl, rfl, e1⟩,
      fun _ _ _ _ _ p hp => (List.not_mem_nil hp).elim, ?_, ?_⟩))
    · rintro j d G' O' hd ⟨ac2, g4, g5, rfl, rfl, e2⟩
      obtain ⟨e, hx2, rfl, hdr2⟩ := enum_at hd
      rw [hdr2, rows1] at e2
      have hac : ac2.length < 1000000 := by
        have := congrArg List.length e2
        rw [List.length_append] at this
        omega
      exists "t2"
      refine wss_one (ws_expr (we_append (by exists "ev") (by exists "mem") (we_pv (d := eRow (kE e i j, e)) (PEv.to (pv_tup (pa_consv (by exists "ev") (pa_consv (pv_intB C (pv_eq (by exists "ev") (by exists "ev") rfl) h2 (by decide +kernel)) (by exists "ea")))) ?_) ⟨_, _, (by exists "mem"), by rw [List.length_map]; exact hac, (by exists "os"), ac2 ++ [(kE e i j, e)], _, _, rfl, ?_, ?_⟩)))
      · show D.tup [.int e.2.1, .int (if decide (kW e.1 = "spend") = true then 1 else 0), .int (i : Int), .int (j : Int), eEv e] = D.tup [.int e.2.1, .int (if e.1 = true then 0 else 1), .int (i : Int), .int (j : Int), eEv e]
        rw [kW_spendI]
      · rw [List.map_append]; rfl
      · rw [List.append_assoc]; exact e2
    · rintro G' O' ⟨ac2, g4, g5, rfl, rfl, e2⟩
      have hle : (enumD (l.map eEv)).length = l.length := by rw [enumD_length, List.length_map]
      rw [hle, List.drop_length, rows1, List.nil_append] at e2
      exact ⟨ac2, _, _, _, _, rfl, rfl, e2⟩
  · rintro G' O' ⟨acc, g2, g3, g4, g5, rfl, rfl, e1⟩
    have hle : (enumD (logs.map eLg)).length = logs.length := by rw [enumD_length, List.length_map]
    rw [hle, List.drop_length, rowsL, List.append_nil] at e1
    subst e1
    refine wss_one (ws_ret (we_less (we_tuple C h4 (by decide +kernel) (we_frz (wn_lc (own := [("row", 6)]) C (by decide +kernel) (lc_of (α := K4 × Ev) (enc := eRow) (c := fun _ => true) (f := fun r => eEv r.2) (wi_lst (we_frz (wn_sortedRows4 (tb := (rowsL 0 logs).map fun r => (r.1, eEv r.2)) C h3 (by decide +kernel) (by exists "ev") (by rw [List.map_map]; exact .own List.mem_cons_self) (by rw [List.map_map]; exact rowsL_nd logs 0) fun out perm srt => by
      obtain ⟨as, p1, rfl⟩ := perm_lift2 (fun r : K4 × Ev => (r.1, eEv r.2)) perm rfl
      rw [List.map_map] at srt
      refine ⟨_, rfl, as, by rw [List.map_map]; rfl, fun p hp => (List.not_mem_nil hp).elim, ?_, fun x hx => ⟨fun X' B' b => ?_⟩, ⟨_, .lst, ?_⟩⟩
      · rw [p1.length_eq]
        omega
      · have C' := b.C
        exists "wp"
        refine wg_name C' (by exists "sa") (by decide +kernel) (by decide) ⟨rfl, fun X2 b2 => wf_nil ⟨rfl, rfl⟩, fun _ X3 b3 => ?_⟩
        have C3 := b3.C
        exact pv_ix (by exists "ev") pv_int .tup rfl
      · refine ⟨[], List.nil_sublist _, ?_⟩
        have := q as p1 srt
        rw [List.map_map] at this
        rw [List.filter_eq_self.mpr (fun _ _ => rfl)]
        exact this)))))))))
abbrev lensI (logs : List (List Ev)) : Int := (logs.map fun l => (l.length : Int)).sum
theorem lens_nat : ∀ logs : List (List Ev), ((logs.flatten.length : Nat) : Int) = lensI logs
  | [] => rfl
  | l :: r => by
    have := lens_nat r
    rw [List.flatten_cons, List.length_append]
    show (((l.length + r.flatten.length : Nat)) : Int) = ((l :: r).map fun l : List Ev => (l.length : Int)).sum
    rw [List.map_cons, List.sum_cons]
    have e : lensI r = (r.map fun l : List Ev => (l.length : Int)).sum := rfl
    omega
def spTog : DSp := fun ds O Φ _ => ∃ logs : List (List Ev), ds = [.tup (logs.map eLg)] ∧ O = [] ∧ logs.length ≤ 100 ∧ (∀ l ∈ logs, OkLog l) ∧ lensI logs ≤ 30 ∧ ∀ out : List (K4 × Ev), out.Perm (rowsL 0 logs) → SrtK out → Φ (.tup ((out.map fun r => r.2).map eEv)) []
abbrev bindS (fd : FuncData) (n : Nat) (ps ks : List Str) (pv : Str) : Prop := ∀ us ws rest : List Value, us.length = n → ws.length = ks.length → bindArgs fd ⟨us ++ rest, ks.zip ws⟩ = (newTuple rest >>= fun t => pure (ps.zip us ++ ks.zip ws ++ [(pv, t)]))
theorem sc_tog : FnScope ["logs", "log"] ["logs"] (defScope (topS 47)) := ⟨rfl, rfl, rfl, by decide +kernel, rfl, by decide +kernel, by decide +kernel⟩
theorem st_tog {M : Mach} {f : Addr} {fd : FuncData} {k : Nat} (F : Fun M.K "together" "together" (topS 47) f fd) (hb : bindS fd 0 [] [] "logs") (h1 : M.mg "sum" = none) (h2 : M.mg "len" = none) (h3 : ∃ t, M.mg "MOST_EVENTS" = some (.int 30 t)) (g1 : GFn M "need_log" k spNeedLog) (g2 : GFn M "put_together" k spPut) :
    StOk M (k + 1) f 0 [] spTog := by
  refine star_body (N := ["logs", "log"]) (vn := ["logs", "log"]) (ps := []) (gl := ["sum", "MOST_EVENTS", "need_log", "put_together", "TooMany"]) F sc_tog rfl (by decide +kernel) hb fun X B ds O Φ Ψ bd h => ?_
  obtain ⟨logs, rfl, rfl, hl, ok, hs, q⟩ := h
  have C := bd.C
  change WSs _ _ [some _, none] _ _ _
  refine wss_cons (ws_for C (wi_v (wiv_tup (ds := logs.map eLg) (by exists "ev")) ⟨fun i G' O' => ∃ g1 : Option D, G' = [some (.tup (logs.map eLg)), g1] ∧ O' = [], ⟨_, rfl, rfl⟩, fun _ _ _ _ _ p hp => (List.not_mem_nil hp).elim, ?_, ?_⟩))
  · rintro i d G' O' hd ⟨g1', rfl, rfl⟩
    obtain ⟨l, hx, rfl, hdr⟩ := map_at hd
    exists "t1"
    exact wss_one (ws_expr (we_pv (pv_call C g1 bd.r (by decide +kernel) (by exists "ea") fun Φ Ψ z => ⟨l, rfl, ok l (List.mem_of_getElem? hx), z⟩) ⟨_, rfl, rfl⟩))
  rintro G' O' ⟨g1', rfl, rfl⟩
  exists "nx"
  refine wss_cons (ws_ifv (c := false) (PTv.to (pt_gt (pv_sumLcA (own := [("log", 1)]) (xs := logs) (enc := eLg) (f := fun l => (l.length : Int)) C h1 (by decide +kernel) (by decide +kernel) (wiv_tup (by exists "ev")) (fun p hp => (List.not_mem_nil hp).elim) (by omega) fun l hl => ⟨fun X' B' b => ?_⟩) (by exists "ev")) (decide_eq_false (by show ¬ lensI logs > 30; omega))) (fun h => by cases h) fun _ => wss_nil ?_)
  · have C' := b.C
    exists "wp"
    refine wg_name C' (by exists "sa") (by decide +kernel) (by decide) ⟨rfl, fun X2 b2 => wf_nil ⟨rfl, rfl⟩, fun _ X3 b3 => ?_⟩
    have C3 := b3.C
    exact PEv.to (pv_len C3 (by exists "ev") .tup h2 (by decide +kernel)) (by rw [List.length_map])
  exists "nx"
  exact wss_one (ws_ret (we_call C g2 bd.r takes_no (by decide +kernel) (wa_pv (by exists "ea") ⟨[], [], List.Perm.refl _, logs, rfl, rfl, hl, fun l hm => by have := (ok l hm).len; omega, fun out p s => q out p s⟩)))
def spSavT : DSp := fun ds O Φ _ => ∃ (logs : List (List Ev)) (t life : Int), ds = [.int t, .int life, .tup (logs.map eLg)] ∧ O = [] ∧ logs.length ≤ 100 ∧ 0 ≤ t ∧ t ≤ 12000 ∧ 1 ≤ life ∧ life ≤ 1000 ∧ (∀ l ∈ logs, Fine l life) ∧ lensI logs ≤ 30 ∧
  ∀ out : List (K4 × Ev), out.Perm (rowsL 0 logs) → SrtK out → Φ (.int ((logs.map fun l => goneBy l life t).sum - goneBy (out.map fun r => r.2) life t)) []
abbrev nSavT : List Str := ["time", "life", "logs", "log", "apart"]
theorem sc_savt : FnScope nSavT ["time", "life", "logs"] (defScope (topS 48)) := ⟨rfl, rfl, rfl, by decide +kernel, rfl, by decide +kernel, by decide +kernel⟩
theorem ord_of_asc9 : ∀ {log : List Ev}, AscE log → OrdEv log
  | [], _ => fun p hp => (List.not_mem_nil hp).elim
  | [_], _ => fun p hp => (List.not_mem_nil hp).elim
  | a :: b :: r, h => by
    obtain ⟨h1, h2⟩ := List.pairwise_cons.mp h
    intro p hp
    rcases List.mem_cons.mp (show p ∈ (a, b) :: (b :: r).zip r from hp) with rfl | hp
    · exact h1 b List.mem_cons_self
    · exact ord_of_asc9 h2 p hp
theorem mg_ok {logs : List (List Ev)} {L : List Ev} (g : Mg logs L) (ok : ∀ l ∈ logs, OkLog l) (hs : lensI logs ≤ 30) : OkLog L := ⟨fun e he => by
  obtain ⟨l, hl, hx⟩ := List.mem_flatten.mp (g.perm.mem_iff.mp he)
  exact (ok l hl).ev e hx, ord_of_asc9 g.asc, by
  have := lens_nat logs
  rw [g.perm.length_eq]
  omega⟩
theorem st_savt {M : Mach} {f : Addr} {fd : FuncData} {k : Nat} (F : Fun M.K "saved_together" "saved_together" (topS 48) f fd) (hb : bindS fd 1 ["time"] ["life"] "logs") (h1 : M.mg "sum" = none) (h2 : M.mg "len" = none) (h3 : ∃ t, M.mg "MOST_EVENTS" = some (.int 30 t)) (g1 : GFn M "need_moment" k spNeedMoment) (g2 : GFn M "need_life" k spNeedLife)
    (g3 : GFn M "need_possible" k spNeedPossible) (g4 : GFn M "lapsed_by" k spGone) (g5 : GFn M "put_together" k spPut) :
    StOk M (k + 1) f 1 ["life"] spSavT := by
  refine star_body (N := nSavT) (vn := nSavT) (ps := ["time"]) (gl := ["sum", "MOST_EVENTS", "need_moment", "need_life", "need_possible", "lapsed_by", "put_together", "TooMany"]) F sc_savt rfl (by decide +kernel) hb fun X B ds O Φ Ψ bd h => ?_
  obtain ⟨logs, t, life, rfl, rfl, hl, t0, t1, l1, l2, fine, hs, q⟩ := h
  have C := bd.C
  change WSs _ _ [some _, some _, some _, none, none] _ _ _
  refine wss_cons (ws_expr (we_pv (pv_call C g1 bd.r (by decide +kernel) (by exists "ea") fun Φ Ψ z => ⟨t, rfl, t0, t1, z⟩) ?_))
  exists "nx"
  refine wss_cons (ws_expr (we_pv (pv_call C g2 bd.r (by decide +kernel) (by exists "ea") fun Φ Ψ z => ⟨life, rfl, l1, l2, z⟩) ?_))
  exists "nx"
  refine wss_cons (ws_for C (wi_v (wiv_tup (ds := logs.map eLg) (by exists "ev")) ⟨fun i G' O' => ∃ g1 : Option D, G' = [some (.int t), some (.int life), some (.tup (logs.map eLg)), g1, none] ∧ O' = [], ⟨_, rfl, rfl⟩, fun _ _ _ _ _ p hp => (List.not_mem_nil hp).elim, ?_, ?_⟩))
  · rintro i d G' O' hd ⟨g1', rfl, rfl⟩
    obtain ⟨l, hx, rfl, hdr⟩ := map_at hd
    exists "t1"
    exact wss_one (ws_expr (we_pv (pv_call C g3 bd.r (by decide +kernel) (by exists "ea") fun Φ Ψ z => ⟨l, life, rfl, fine l (List.mem_of_getElem? hx), z⟩) ⟨_, rfl, rfl⟩))
  rintro G' O' ⟨g1', rfl, rfl⟩
  exists "nx"
  refine wss_cons (ws_ifv (c := false) (PTv.to (pt_gt (pv_sumLcA (own := [("log", 3)]) (xs := logs) (enc := eLg) (f := fun l => (l.length : Int)) C h1 (by decide +kernel) (by decide +kernel) (wiv_tup (by exists "ev")) (fun p hp => (List.not_mem_nil hp).elim) (by omega) fun l hl => ⟨fun X' B' b => ?_⟩) (by exists "ev")) (decide_eq_false (by show ¬ lensI logs > 30; omega))) (fun h => by cases h) fun _ => wss_nil ?_)
  · have C' := b.C
    exists "wp"
    refine wg_name C' (by exists "sa") (by decide +kernel) (by decide) ⟨rfl, fun X2 b2 => wf_nil ⟨rfl, rfl⟩, fun _ X3 b3 => ?_⟩
    have C3 := b3.C
    exact PEv.to (pv_len C3 (by exists "ev") .tup h2 (by decide +kernel)) (by rw [List.length_map])
  exists "nx"
  refine wss_cons (ws_set C (by exists "sa") (by decide +kernel) (we_pv (d := .int (logs.map fun l => goneBy l life t).sum) (pv_sumLcA (own := [("log", 3)]) (xs := logs) (enc := eLg) (f := fun l => goneBy l life t) C h1 (by decide +kernel) (by decide +kernel) (wiv_tup (by exists "ev")) (fun p hp => (List.not_mem_nil hp).elim) (by omega) fun l hl => ⟨fun X' B' b => ?_⟩) ?_))
  · have C' := b.C
    exists "wp"
    refine wg_name C' (by exists "sa") (by decide +kernel) (by decide) ⟨rfl, fun X2 b2 => wf_nil ⟨rfl, rfl⟩, fun _ X3 b3 => ?_⟩
    have C3 := b3.C
    exact pv_call C3 g4 (b3.A ▸ bd.r) (by decide +kernel) (by exists "ea") fun Φ Ψ z => ⟨l, life, t, rfl, (fine l hl).ok, z⟩
  exists "nx"
  refine wss_one (ws_ret (we_op op_sub dop_I0 (we_pv (by exists "ev") (we_call C g4 bd.r takes_no (by decide +kernel) (wa_cons (we_call C g5 bd.r takes_no (by decide +kernel) (wa_pv (by exists "ea") ⟨[], [], List.Perm.refl _, logs, rfl, rfl, hl, fun l hm => by have := (fine l hm).ok.len; omega, fun out p s => ?_⟩)))))))
  exact wa_pv (by exists "ea") ⟨[], [], List.Perm.refl _, (out.map fun r : K4 × Ev => r.2), life, t, rfl, mg_ok (srt_mg p s) (fun l hm => (fine l hm).ok) hs, ⟨_, _, rfl, rfl, trivial, by exact q out p s⟩⟩
theorem bs_tog (kV doc pm : Value) (an : Option Addr) (cdv ct : Value) : bindS (PySem.W.fnOf "together" "together" (defArgs (topS 47)) (defBody (topS 47)) (defScope (topS 47)) .none kV doc pm an cdv ct) 0 [] [] "logs" := fun us ws rest h1 h2 => match us, ws, rest, h1, h2 with
  | [], [], [], _, _ => rfl
  | [], [], r :: rs, _, _ => rfl
theorem bs_sav (kV doc pm : Value) (an : Option Addr) (cdv ct : Value) : bindS (PySem.W.fnOf "saved_together" "saved_together" (defArgs (topS 48)) (defBody (topS 48)) (defScope (topS 48)) .none kV doc pm an cdv ct) 1 ["time"] ["life"] "logs" := fun us ws rest h1 h2 => match us, ws, rest, h1, h2 with
  | [_], [_], [], _, _ => rfl
  | [_], [_], r :: rs, _, _ => rfl
/-- what a def with *args binds -/
theorem bs_st {K : PySem.W.Frag} {x qual : Str} {params : Arguments} {body : List Stmt} {scope : Scope} {kws : List (Str × V)} {f : Addr} {fd : FuncData} {n : Nat} {ps ks : List Str} {pv : Str} (F : FunD K x qual params body scope [] kws f fd)
    (h : ∀ (kV doc pm : Value) (an : Option Addr) (cdv ct : Value), bindS (PySem.W.fnOf x qual params body scope .none kV doc pm an cdv ct) n ps ks pv) : bindS fd n ps ks pv := by
  obtain ⟨a, b, c, d, e, g, i, j, l, m, e1, e2, e3, e4, _⟩ := F.ex
  rcases e4 with ⟨_, z⟩ | ⟨z, _⟩
  · cases z
    subst e1
    exact h d e g i j l
  · exact (z rfl).elim
def leftF (log : List Ev) (life t : Int) : List (Int × Int) := mergeF ((playF life t log).1.map fun l : Lot => (l.1, l.2.1))
def spLeft : DSp := fun ds O Φ _ => ∃ (log : List Ev) (t life : Int), ds = [.tup (log.map eEv), .int t, .int life] ∧ Fine log life ∧ 0 ≤ t ∧ t ≤ 12000 ∧ Φ (.lst ((leftF log life t).map ePr)) O
theorem sc_left : FnScope ["log", "time", "life", "lot"] nNeedA (defScope (topS 41)) := ⟨rfl, rfl, rfl, by decide +kernel, rfl, by decide +kernel, by decide +kernel⟩
theorem ok_left {M : Mach} {f : Addr} {fd : FuncData} {k : Nat} (F : Fun M.K "left" "left" (topS 41) f fd) (g : GFn M "need_asked" k spNeedAsked) (g1 : GFn M "play" k spPlay) (g2 : GFn M "merged" k spMerged) :
    FnOk M.P M.w M.K M.mg M.base (L2N.CX M.P M.w) (k + 1) f fd nNeedA (liftSp M.K spLeft) := by
  refine fn_body (N := ["log", "time", "life", "lot"]) (vn := nNeedA) (gl := ["need_asked", "play", "merged"]) F sc_left (by decide +kernel) (fun ds O Φ Ψ h => ?_) fun X B ds O Φ Ψ bd h => ?_
  · obtain ⟨_, _, _, rfl, _⟩ := h
    rfl
  obtain ⟨log, t, life, rfl, fine, t0, t1, q⟩ := h
  have C := bd.C
  have ok := fine.ok
  have hl := ok.len
  have hp := playF_len life t log
  change WSs _ _ [some _, some _, some _, none] _ _ _
  refine wss_cons (ws_expr (we_pv (pv_call C g bd.r (by decide +kernel) (by exists "ea") fun Φ Ψ z => ⟨log, t, life, rfl, fine, t0, t1, z⟩) ?_))
  exists "nx"
  refine wss_one (ws_ret (we_pv (pv_call' (v := .lst ((leftF log life t).map ePr)) C g2 bd.r (by decide +kernel) (pa_consv (pv_frz (pn_lcA (own := [("lot", 3)]) (xs := (playF life t log).1) (enc := eLot) (f := fun l : Lot => ePr (l.1, l.2.1)) C (by decide +kernel) (wiv_lst (pv_ix (pv_call' C g1 bd.r (by decide +kernel) (by exists "ea") fun Φ Ψ z => ⟨log, life, t, rfl, rfl, ok.pos, by omega, z⟩) pv_int .tup at0)) (fun p hp => (List.not_mem_nil hp).elim) (by omega) fun l hl => ⟨fun X' B' b => ?_⟩)) pa_nilv) fun Φ Ψ z => ⟨(playF life t log).1.map fun l : Lot => (l.1, l.2.1), by rw [List.map_map]; rfl, rfl, by rw [List.length_map]; omega, z⟩) q))
  have C' := b.C
  exists "wp"
  refine wg_name C' (by exists "sa") (by decide +kernel) (by decide) ⟨rfl, fun X2 b2 => wf_nil ⟨rfl, rfl⟩, fun _ X3 b3 => ?_⟩
  have C3 := b3.C
  exists "ev"
def spFRef : DSp := fun ds O Φ _ => ∃ (log : List Ev) (life : Int), ds = [.tup (log.map eEv), .int life] ∧ OkLog log ∧ 1 ≤ life ∧ life ≤ 1000 ∧ Φ (eOpt (playF life 10000 log).2.2.2) O
theorem sc_fref : FnScope ["log", "life"] ["log", "life"] (defScope (topS 31)) := ⟨rfl, rfl, rfl, by decide +kernel, rfl, by decide +kernel, by decide +kernel⟩
theorem ok_fref {M : Mach} {f : Addr} {fd : FuncData} {k : Nat} (F : Fun M.K "first_refused" "first_refused" (topS 31) f fd) (g1 : GFn M "need_log" k spNeedLog) (g2 : GFn M "need_life" k spNeedLife) (g3 : GFn M "refused_at" k spRefusedAt) :
    FnOk M.P M.w M.K M.mg M.base (L2N.CX M.P M.w) (k + 1) f fd ["log", "life"] (liftSp M.K spFRef) := by
  refine fn_body (N := ["log", "life"]) (vn := ["log", "life"]) (gl := ["need_log", "need_life", "refused_at"]) F sc_fref (by decide +kernel) (fun ds O Φ Ψ h => ?_) fun X B ds O Φ Ψ bd h => ?_
  · obtain ⟨_, _, rfl, _⟩ := h
    rfl
  obtain ⟨log, life, rfl, ok, l1, l2, q⟩ := h
  have C := bd.C
  change WSs _ _ [some _, some _] _ _ _
  refine wss_cons (ws_expr (we_pv (pv_call C g1 bd.r (by decide +kernel) (by exists "ea") fun Φ Ψ z => ⟨log, rfl, ok, z⟩) ?_))
  exists "nx"
  refine wss_cons (ws_expr (we_pv (pv_call C g2 bd.r (by decide +kernel) (by exists "ea") fun Φ Ψ z => ⟨life, rfl, l1, l2, z⟩) ?_))
  exists "nx"
  exact wss_one (ws_ret (we_pv (pv_call C g3 bd.r (by decide +kernel) (by exists "ea") fun Φ Ψ z => ⟨log, life, rfl, ok, z⟩) q))
/-- whether it is possible, of any log -/
def spPossB : DSp := fun ds O Φ _ => ∃ (log : List Ev) (life : Int), ds = [.tup (log.map eEv), .int life] ∧ OkLog log ∧ 1 ≤ life ∧ life ≤ 1000 ∧ Φ (.bl (playF life 10000 log).2.2.2.isNone) O
theorem sc_possb : FnScope ["log", "life"] ["log", "life"] (defScope (topS 32)) := ⟨rfl, rfl, rfl, by decide +kernel, rfl, by decide +kernel, by decide +kernel⟩
theorem ok_possb {M : Mach} {f : Addr} {fd : FuncData} {k : Nat} (F : Fun M.K "is_possible" "is_possible" (topS 32) f fd) (g1 : GFn M "need_log" k spNeedLog) (g2 : GFn M "need_life" k spNeedLife) (g3 : GFn M "refused_at" k spRefusedAt) :
    FnOk M.P M.w M.K M.mg M.base (L2N.CX M.P M.w) (k + 1) f fd ["log", "life"] (liftSp M.K spPossB) := by
  refine fn_body (N := ["log", "life"]) (vn := ["log", "life"]) (gl := ["need_log", "need_life", "refused_at"]) F sc_possb (by decide +kernel) (fun ds O Φ Ψ h => ?_) fun X B ds O Φ Ψ bd h => ?_
  · obtain ⟨_, _, rfl, _⟩ := h
    rfl
  obtain ⟨log, life, rfl, ok, l1, l2, q⟩ := h
  have C := bd.C
  change WSs _ _ [some _, some _] _ _ _
  refine wss_cons (ws_expr (we_pv (pv_call C g1 bd.r (by decide +kernel) (by exists "ea") fun Φ Ψ z => ⟨log, rfl, ok, z⟩) ?_))
  exists "nx"
  refine wss_cons (ws_expr (we_pv (pv_call C g2 bd.r (by decide +kernel) (by exists "ea") fun Φ Ψ z => ⟨life, rfl, l1, l2, z⟩) ?_))
  exists "nx"
  exact wss_one (ws_ret (we_pv (PEv.to (pv_is (pv_call C g3 bd.r (by decide +kernel) (by exists "ea") fun Φ Ψ z => ⟨log, life, rfl, ok, z⟩) (by exists "ev")) (congrArg D.bl (by cases (playF life 10000 log).2.2.2 <;> rfl))) q))
abbrev staysB (life t : Int) : Lot → Bool := fun l => decide (l.1 + life > t)
def newF (life : Int) : Nat → List Ev → List Lot → List Tk → Option (List Tk)
  | _, [], _, fs => some fs
  | i, e :: r, ls, fs =>
    if e.1 = true then newF life (i + 1) r (ls.filter (staysB life e.2.1) ++ [(e.2.1, e.2.2, (i : Int))]) fs
    else if total (ls.filter (staysB life e.2.1)) < e.2.2 then none
    else newF life (i + 1) r (takeF (ls.filter (staysB life e.2.1)).reverse e.2.2).1.reverse (fs ++ [(takeF (ls.filter (staysB life e.2.1)).reverse e.2.2).2.reverse])
def eOTk : Option (List Tk) → D
  | none => .non
  | some ts => .tup (ts.map eTk)
def spNewest : DSp := fun ds O Φ _ => ∃ (log : List Ev) (life : Int), ds = [.tup (log.map eEv), .int life] ∧ O = [] ∧ Fine log life ∧ Φ (eOTk (newF life 0 log [] [])) []
abbrev nNewest : List Str := ["log", "life", "lots", "found", "index", "kind", "time", "amount", "taken", "earned", "there", "place", "part", "lot"]
abbrev vNewest : List Str := ["log", "life", "lots", "found", "index", "kind", "time", "amount", "taken", "earned", "there", "place", "part"]
theorem sc_newest : FnScope nNewest ["log", "life"] (defScope (topS 61)) := ⟨rfl, rfl, rfl, by decide +kernel, rfl, by decide +kernel, by decide +kernel⟩
theorem takeF_zero : ∀ ls : List Lot, takeF ls 0 = (ls, [])
  | [] => rfl
  | l :: r => by rw [takeF, if_neg (by decide)]
theorem posL_rev {ls : List Lot} (h : PosL ls) : PosL ls.reverse := fun x hx => h x (List.mem_reverse.mp hx)
theorem total_rev (ls : List Lot) : total ls.reverse = total ls := by
  unfold total
  rw [List.map_reverse, List.sum_reverse]
theorem total_snoc (ls : List Lot) (l : Lot) : total (ls ++ [l]) = total ls + l.2.1 := by
  unfold total
  rw [List.map_append, List.sum_append]
  show _ + (l.2.1 + 0) = _
  rw [Int.add_zero]
theorem ok_newest {M : Mach} {f : Addr} {fd : FuncData} {k : Nat} (F : Fun M.K "newest_choice" "newest_choice" (topS 61) f fd) (h1 : M.mg "enumerate" = none) (h2 : M.mg "sum" = none) (h3 : M.mg "tuple" = none) (h4 : M.mg "min" = none) (g : GFn M "need_possible" k spNeedPossible) :
    FnOk M.P M.w M.K M.mg M.base (L2N.CX M.P M.w) (k + 1) f fd ["log", "life"] (liftSp M.K spNewest) := by
  refine fn_body (N := nNewest) (vn := vNewest) (gl := ["need_possible", "enumerate", "sum", "tuple", "min"]) F sc_newest (by decide +kernel) (fun ds O Φ Ψ h => ?_) fun X B ds O Φ Ψ bd h => ?_
  · obtain ⟨_, _, rfl, _⟩ := h
    rfl
  obtain ⟨log, life, rfl, rfl, fine, q⟩ := h
  have C := bd.C
  have hlen := fine.ok.len
  have pos := fine.ok.pos
  change WSs _ _ [some _, some _, none, none, none, none, none, none, none, none, none, none, none, none] _ _ _
  refine wss_cons (ws_expr (we_pv (pv_call C g bd.r (by decide +kernel) (by exists "ea") fun Φ Ψ z => ⟨log, life, rfl, fine, z⟩) ?_))
  exists "nx"
  refine wss_cons ?_
  exists "p2"
  refine wa_cons (we_own (wn_pv (pn_lst pa_nilv) fun a => wa_cons (we_own (wn_pv (pn_lst pa_nilv) fun b => wa_nil ⟨_, _, rfl, ?_⟩))))
  exists "nx"
  refine wss_perm (O' := [(a, .lst []), (b, .lst [])]) (List.Perm.swap _ _ _) ?_
  refine wss_cons (ws_for C (wi_v (wiv_enumT (ds := log.map eEv) C h1 (by decide +kernel) (by exists "ev")) ⟨fun i G' O' => ∃ (a : Addr) (ls : List Lot) (fs : List Tk) (g4 g5 g6 g7 g8 g9 g10 g11 g12 : Option D), G' = [some (.tup (log.map eEv)), some (.int life), some (.obj a), some (.obj b), g4, g5, g6, g7, g8, g9, g10, g11, g12, none] ∧ O' = [(a, .lst (ls.map eLot)), (b, .lst (fs.map eTk))] ∧ newF life i (log.drop i) ls fs = newF life 0 log [] [] ∧ PosL ls ∧ ls.length ≤ i ∧ fs.length ≤ i ∧ i ≤ 100,
    ⟨a, [], [], none, none, none, none, none, none, none, none, none, rfl, rfl, rfl, fun _ h => (List.not_mem_nil h).elim, Nat.le_refl _, Nat.le_refl _, Nat.zero_le _⟩, fun _ _ _ _ _ p hp => (List.not_mem_nil hp).elim, ?_, ?_⟩))
  · rintro i d G' O' hd ⟨a, ls, fs, g4, g5, g6, g7, g8, g9, g10, g11, g12, rfl, rfl, e1, ps, l1, l2, l3⟩
    obtain ⟨⟨kd, t, n⟩, hx, rfl, hdr⟩ := enum_at hd
    have hi := (List.getElem?_eq_some_iff.mp hx).1
    have hn : 0 < n := pos _ (List.mem_of_getElem? hx)
    rw [hdr, newF] at e1
    dsimp only at e1
    obtain ⟨lz, hlz⟩ : ∃ z, ls.filter (staysB life t) = z := ⟨_, rfl⟩
    have psz : PosL lz := fun x hx => ps x (List.mem_filter.mp (by rw [hlz]; exact hx)).1
    have llz : lz.length ≤ ls.length := by rw [← hlz]; exact List.length_filter_le _ _
    rw [hlz] at e1
    refine wg_tup C (wgs_cons (wg_name C (by exists "sa") (by decide +kernel) trivial (wgs_cons ?_)))
    exists "t3"
    refine wgs_nil ?_
    refine wss_cons (ws_setLcP (own := [("lot", 13)]) (xs := ls) (enc := eLot) (c := staysB life t) (f := eLot) C (by exists "sa") rfl (by decide +kernel) (wiv_own (by exists "ev") (by exists "mem")) (fun p hp => by rw [List.mem_singleton.mp hp]; exists "mem") (by omega) (fun l hl => ⟨fun X' B' b => ?_⟩) fun p => ?_)
    · have C' := b.C
      exists "wp"
      refine wg_name C' (by exists "sa") (by decide +kernel) (by decide) ⟨rfl, fun X2 b2 => ?_, fun _ X3 b3 => ?_⟩
      · have C2 := b2.C
        exact wf_pv (by exists "et") ⟨rfl, rfl⟩
      · have C3 := b3.C
        exists "ev"
    exists "nx"
    rw [hlz]
    refine wss_forget (O' := [(p, .lst (lz.map eLot)), (b, .lst (fs.map eTk))]) (List.Sublist.cons₂ _ (List.Sublist.cons _ (List.Sublist.refl _))) ?_
    cases kd with
    | true =>
      rw [if_pos rfl] at e1
      refine wss_one (ws_ifv (c := true) (by exists "et") (fun _ => ?_) (fun h => by cases h))
      refine wss_one (ws_expr (we_append (by exists "ev") (by exists "mem") (we_pv (by exists "ev") ⟨_, _, (by exists "mem"), by rw [List.length_map]; omega, (by exists "os"), ?_⟩)))
      refine ⟨p, lz ++ [(t, n, (i : Int))], fs, _, _, _, _, _, _, _, _, _, rfl, ?_, e1, ?_, ?_, by omega, by omega⟩
      · simp only [List.map_append, List.map_cons, List.map_nil]
      · intro x hx
        rcases List.mem_append.mp hx with hx | hx
        · exact psz x hx
        · rw [List.mem_singleton.mp hx]; exact hn
      · rw [List.length_append, List.length_singleton]; omega
    | false =>
      rw [if_neg (by decide)] at e1
      refine wss_one (ws_ifv (c := false) (by exists "et") (fun h => by cases h) (fun _ => ?_))
      refine wss_one (ws_if (wt_pv (pt_lt (pv_sumLcA (own := [("lot", 13)]) (f := fun l : Lot => l.2.1) C h2 (by decide +kernel) (by decide +kernel) (wiv_own (by exists "ev") (by exists "mem")) (fun p hp => by rw [List.mem_singleton.mp hp]; exists "mem") (by omega) fun l hl => ⟨fun X' B' b => ?_⟩) (by exists "ev")) (if_d (fun hr => ?_) (fun hr => ?_))))
      · have C' := b.C
        exists "wp"
        refine wg_name C' (by exists "sa") (by decide +kernel) (by decide) ⟨rfl, fun X2 b2 => wf_nil ⟨rfl, rfl⟩, fun _ X3 b3 => ?_⟩
        have C3 := b3.C
        exists "ev"
      · have hr : total lz < n := hr
        rw [if_pos hr] at e1
        rw [← e1] at q
        exact wss_one (ws_ret (we_less (we_pv (d := .non) (by exists "ev") ⟨[], List.nil_sublist _, q⟩)))
      · have hr : ¬ total lz < n := hr
        rw [if_neg hr] at e1
        refine wss_cons (ws_set C (by exists "sa") (by decide +kernel) (we_own (wn_pv (pn_lst pa_nilv) fun u => ?_)))
        exists "nx"
        refine wss_cons (ws_while C (fun m G' O' => ∃ (n' : Int) (lw : List Lot) (tk : List (Int × Int)) (g9 g10 g11 g12 : Option D), m = n'.toNat ∧ G' = [some (.tup (log.map eEv)), some (.int life), some (.obj p), some (.obj b), some (.int (i : Int)), some (.str (kW false)), some (.int t), some (.int n'), some (.obj u), g9, g10, g11, g12, none] ∧ O' = [(u, .lst (tk.map ePr)), (p, .lst (lw.map eLot)), (b, .lst (fs.map eTk))] ∧ PosL lw ∧ 0 ≤ n' ∧ n' ≤ total lw ∧
          (takeF lw.reverse n').1 = (takeF lz.reverse n).1 ∧ tk ++ (takeF lw.reverse n').2 = (takeF lz.reverse n).2 ∧ lw.length ≤ lz.length ∧ (0 < n' → tk.length + lw.length ≤ lz.length)) ⟨_, n, lz, [], _, _, _, _, rfl, rfl, rfl, psz, by omega, by omega, rfl, rfl, Nat.le_refl _, fun _ => by show 0 + lz.length ≤ _; omega⟩ ?_)
        rintro m G' O' ⟨n', lw, tk, g9, g10, g11, g12, rfl, rfl, rfl, psw, n0, nt, e2, e3, lw1, lw2⟩
        refine wt_pv (by exists "et") (if_d (fun hq => ?_) (fun hq => ?_))
        · rcases List.eq_nil_or_concat lw with rfl | ⟨ys, ⟨lt, ln, li⟩, rfl⟩
          · rw [total_nil] at nt
            omega
          rw [List.concat_eq_append] at *
          have pl : 0 < ln := psw (lt, ln, li) (List.mem_append_right _ List.mem_cons_self)
          have psy : PosL ys := fun x hx => psw x (List.mem_append_left _ hx)
          have hlast : ((ys ++ [(lt, ln, li)]).map eLot).getLast? = some (eLot (lt, ln, li)) := by rw [List.map_append]; exact List.getLast?_concat
          have hdl : ((ys ++ [(lt, ln, li)]).map eLot).dropLast = ys.map eLot := by rw [List.map_append]; exact List.dropLast_concat
          have l5 := lw2 hq
          rw [total_snoc] at nt
          rw [List.length_append, List.length_singleton] at lw1 l5
          rw [List.reverse_append, List.reverse_singleton, List.singleton_append, takeF, if_pos hq] at e2 e3
          dsimp only at e2 e3 nt
          refine wss_cons (ws_asg (vs := fun _ => True) (we_pop (by exists "ev") (by exists "mem") hlast (by exists "os") ?_))
          rw [hdl]
          exists "t3"
          exists "nx"
          by_cases hc : ln ≤ n'
          · rw [if_pos hc] at e2 e3
            dsimp only at e2 e3
            refine wss_cons (ws_set C (by exists "sa") (by decide +kernel) (we_pv (PEv.to (d' := .int ln) (by exists "ev") (congrArg D.int (by split <;> omega))) ?_))
            exists "nx"
            refine wss_cons (ws_expr (we_append (by exists "ev") (by exists "mem") (we_pv (by exists "ev") ⟨_, _, (by exists "mem"), by rw [List.length_map]; omega, (by exists "os"), ?_⟩)))
            exists "nx"
            refine wss_cons (ws_augI C ip_sub (by exists "va") (by exists "sa") (by decide +kernel) (we_pv (by exists "ev") ⟨_, rfl, ?_⟩))
            exists "nx"
            refine wss_one (ws_ifv (c := false) (PTv.to (by exists "et") (decide_eq_false (by omega))) (fun h => by cases h) fun _ => wss_nil ?_)
            refine ⟨_, by omega, n' - ln, ys, tk ++ [(li, ln)], _, _, _, _, rfl, rfl, ?_, psy, by omega, by omega, e2, ?_, by omega, fun _ => ?_⟩
            · rw [List.map_append]; rfl
            · rw [List.append_assoc]; exact e3
            · rw [List.length_append, List.length_singleton]; omega
          · rw [if_neg hc] at e2 e3
            dsimp only at e2 e3
            refine wss_cons (ws_set C (by exists "sa") (by decide +kernel) (we_pv (PEv.to (d' := .int n') (by exists "ev") (congrArg D.int (by split <;> omega))) ?_))
            exists "nx"
            refine wss_cons (ws_expr (we_append (by exists "ev") (by exists "mem") (we_pv (by exists "ev") ⟨_, _, (by exists "mem"), by rw [List.length_map]; omega, (by exists "os"), ?_⟩)))
            exists "nx"
            refine wss_cons (ws_augI C ip_sub (by exists "va") (by exists "sa") (by decide +kernel) (we_pv (by exists "ev") ⟨_, rfl, ?_⟩))
            exists "nx"
            refine wss_one (ws_ifv (c := true) (PTv.to (by exists "et") (decide_eq_true (by omega))) (fun _ => ?_) fun h => by cases h)
            refine wss_one (ws_expr (we_append (by exists "ev") (by exists "mem") (we_pv (by exists "ev") ⟨_, _, (by exists "mem"), by rw [List.length_map]; omega, (by exists "os"), ?_⟩)))
            refine ⟨_, by omega, n' - n', ys ++ [(lt, ln - n', li)], tk ++ [(li, n')], _, _, _, _, rfl, rfl, ?_, ?_, by omega, ?_, ?_, ?_, ?_, fun h => by omega⟩
            · rw [List.map_append, List.map_append]; rfl
            · intro x hx
              rcases List.mem_append.mp hx with hx | hx
              · exact psy x hx
              · rw [List.mem_singleton.mp hx]
                show 0 < ln - n'
                omega
            · have := (posL_rev psy).total
              rw [total_rev] at this
              rw [total_snoc]
              show n' - n' ≤ total ys + (ln - n')
              omega
            · rw [Int.sub_self, takeF_zero, List.reverse_append]
              exact e2
            · rw [Int.sub_self, takeF_zero, List.append_nil]
              exact e3
            · rw [List.length_append, List.length_singleton]; omega
        · obtain rfl : n' = 0 := by omega
          rw [takeF_zero] at e2 e3
          have e2 : lw.reverse = (takeF lz.reverse n).1 := e2
          rw [List.append_nil] at e3
          rw [← e2, ← e3, List.reverse_reverse] at e1
          refine wss_one (ws_expr (we_less (we_append (by exists "ev") (by exists "mem") (we_tuple C h3 (by decide +kernel) (we_pv (pv_frz (pn_rev (by exists "ev") (.own (by exists "mem")))) ⟨_, .lst, _, _, (by exists "mem"), by rw [List.length_map]; omega, (by exists "os"), [(p, _), (b, _)], List.sublist_cons_self _ _, p, lw, fs ++ [tk.reverse], _, _, _, _, _, _, _, _, _, rfl, ?_, e1, psw, by omega, ?_, by omega⟩)))))
          · rw [List.map_append, ← List.map_reverse] <;> rfl
          · rw [List.length_append, List.length_singleton]; omega
  · rintro G' O' ⟨a, ls, fs, g4, g5, g6, g7, g8, g9, g10, g11, g12, rfl, rfl, e1, ps, l1, l2, l3⟩
    have hle : (enumD (log.map eEv)).length = log.length := by rw [enumD_length, List.length_map]
    rw [hle, List.drop_length, newF] at e1
    rw [← e1] at q
    exact wss_one (ws_ret (we_less (we_tuple C h3 (by decide +kernel) (we_pv (by exists "ev") ⟨_, Items.own (by exists "mem"), [], List.nil_sublist _, q⟩))))
abbrev qRange : Str := "range_for.<locals>.<lambda>"
def domMk (mk : Int → List Ev) : List D → D → Prop := fun ds v => ∃ m : Int, 1 ≤ m ∧ m ≤ 1000000 ∧ ds = [.int m] ∧ v = .tup ((mk m).map eEv)
def rangeF (mk : Int → List Ev) (life : Int) (seen : List (Int × Int)) : Option (Int × Int) := bestF (fun k t => thF (mk k) life t) seen (firstI (fun k => covF (mk k) life) 1 1000000) 1000000
def spRange (M : Mach) (P R : Addr) : DSp := fun ds O Φ _ => ∃ (fm : Addr) (life : Int) (seen : List (Int × Int)) (Om : Own) (L : LamW) (cl : List (Str × Addr)) (mk : Int → List Ev), ds = [.obj fm, .int life, .tup (seen.map ePr)] ∧ O = (P, .tab qRange) :: (R, .tab qBest) :: Om ∧ (fm, OV.lamc L cl) ∈ Om ∧ VFn M 15 fm (spFun Om (domMk mk)) ∧
  (∀ m, 1 ≤ m → m ≤ 1000000 → OkLog (mk m)) ∧ seen.length ≤ 1000 ∧ Φ (eOP (rangeF mk life seen)) O
abbrev nRange : List Str := ["made", "life", "seen", "covered"]
theorem sc_range : FnScope nRange ["made", "life", "seen"] (defScope (topS 69)) := ⟨rfl, rfl, rfl, by decide +kernel, rfl, by decide +kernel, by decide +kernel⟩
theorem permD {C Om : Own} {a b c d : Addr × OV} : (C ++ a :: b :: c :: d :: Om).Perm ((d :: (C ++ a :: b :: Om)) ++ [c]) := by
  have e : C ++ a :: b :: c :: d :: Om = (C ++ [a, b]) ++ c :: d :: Om := by simp
  have e2 : C ++ a :: b :: Om = (C ++ [a, b]) ++ Om := by simp
  rw [e, e2]
  exact (List.perm_middle.trans (List.Perm.cons _ List.perm_middle)).trans (List.perm_append_singleton _ _).symm
theorem permE {C : Own} {a b c d : Addr × OV} : (C ++ [a, b, c, d]).Perm ((c :: d :: (C ++ [a])) ++ [b]) := by
  have e : C ++ [a, b, c, d] = (C ++ [a]) ++ b :: c :: [d] := by simp
  rw [e]
  refine List.perm_middle.trans ((List.Perm.cons _ ?_).trans (List.perm_append_singleton _ _).symm)
  refine List.perm_middle.trans (List.Perm.cons _ ?_)
  exact List.perm_append_singleton _ _
theorem perm2 {Om : Own} {a b : Addr × OV} : (a :: b :: Om).Perm (Om ++ [a, b]) := List.perm_append_comm (l₁ := [a, b]) (l₂ := Om)
theorem ok_range {M : Mach} {f : Addr} {fd : FuncData} {k : Nat} {c P R : Addr} (F : Fun M.K "range_for" "range_for" (topS 69) f fd) (h1 : ∃ t, M.mg "LARGEST" = some (.int 1000000 t)) (gr : GFn M "refused_at" 15 spRefusedAt) (gt : GFn M "balance_of" 15 spThere) (gb : GFn M "best_range" k (spBest M R))
    (hcode : fd.code = .ref c) (TB : LamX.TabB M.base M.mg c P) : FnOk M.P M.w M.K M.mg M.base (L2N.CX M.P M.w) (k + 1) f fd ["made", "life", "seen"] (liftSp M.K (spRange M P R)) := by
  refine fn_bodyC (N := nRange) (vn := nRange) (gl := ["best_range", "LARGEST"]) F sc_range (by decide +kernel) (fun ds O Φ Ψ h => ?_) fun X B ds O Φ Ψ bd env h => ?_
  · obtain ⟨_, _, _, _, _, _, _, rfl, _⟩ := h
    rfl
  obtain ⟨fm, life, seen, Om, L, cl, mk, rfl, rfl, hm, Vm, okm, hsl, q⟩ := h
  obtain ⟨Ln, env⟩ := env
  have hq : X.env.qual ++ "<lambda>" = qRange := by
    rw [env]
    show (envOfC "range_for" (defScope (topS 69)) Ln f fd.code).qual ++ "<lambda>" = qRange
    rfl
  have hcode' : X.env.code = .ref c := by
    rw [env]
    exact hcode
  have C := bd.C
  have hmP : ∀ {O' : Own}, (P, OV.tab (X.env.qual ++ "<lambda>")) ∈ (P, OV.tab qRange) :: O' := by
    rw [hq]
    exact List.mem_cons_self
  have hmP2 : ∀ {p1 : Addr × OV} {O' : Own}, (P, OV.tab (X.env.qual ++ "<lambda>")) ∈ p1 :: (P, OV.tab qRange) :: O' := fun {p1 O'} => List.mem_cons_of_mem _ hmP
  change WSs _ _ [some _, some _, some _, none] _ _ _
  refine wss_cons (ws_set C (by exists "sa") (by decide +kernel) (we_lamC C TB hcode' hmP (by decide +kernel) fun f1 => ?_))
  exists "nx"
  have hx : ∀ q ∈ ([("made", .obj fm), ("life", .int life)] : NDs), VarAt nRange [some (.obj fm), some (.int life), some (.tup (seen.map ePr)), some (.obj f1)] q.1 q.2 := fun q hq => by
    simp only [List.mem_cons, List.not_mem_nil, or_false] at hq
    rcases hq with rfl | rfl <;> exists "va"
  refine wss_one (ws_ret (we_less (we_callC ["made", "life"] [("made", .obj fm), ("life", .int life)] C gb bd.r (by decide +kernel) hx rfl (by decide +kernel) (by decide +kernel) (wa_cons (we_pv (by exists "ev") (wa_cons (we_lamC C TB hcode' hmP2 (by decide +kernel) fun f2 => wa_pv (by exists "ea") fun ca co lc => ?_)))))))
  refine ⟨_, _, eOP (rangeF mk life seen), permD, fun Φ' Ψ' z => ⟨f1, f2, seen, 1000000, _, _, _, _, _, fun k => covF (mk k) life, fun k t => thF (mk k) life t, rfl, rfl, hsl, List.mem_append_right _ (List.mem_cons_of_mem _ List.mem_cons_self), List.mem_append_right _ List.mem_cons_self, ?_, ?_, by decide, z⟩, _, List.Sublist.cons _ (List.Sublist.cons _ (List.Sublist.refl _)), q⟩
  · refine vfn_clo (k := 15) (ps := ["k"]) (gl := ["refused_at"]) lc ["made", "life"] ["k", "made", "life"] [("made", .obj fm), ("life", .int life)] rfl rfl (by decide +kernel) (by decide +kernel) (fun _ _ _ _ us hl => match us, hl with | [_], _ => rfl) (fun q hq => List.mem_map.mpr ⟨q, hq, rfl⟩) (List.Perm.refl _) (List.mem_cons_of_mem _ List.mem_cons_self) (fun ds v ⟨m, _, _, e, _⟩ => by rw [e] <;> rfl) fun X' B' ds v ⟨m, m1, m9, e1, e2⟩ lb => ?_
    subst e1 e2
    have C' := lb.C
    change PEv X' B' [some (.int m), some (.obj fm), some (.int life)] _ _ _
    exact PEv.to (pv_is (pv_call C' gr lb.r (by decide +kernel) (pa_consv (pv_callV (L := L) (cl := cl) (O0 := Om) (Ob := [_, _]) C' (by exists "va") (by decide +kernel) Vm lb.r (List.mem_cons_of_mem _ (List.mem_cons_of_mem _ hm)) perm2 (by exists "ea") ⟨m, m1, m9, rfl, rfl⟩) (by exists "ea")) fun Φ Ψ z => ⟨mk m, life, rfl, okm m m1 m9, z⟩) (by exists "ev")) (congrArg D.bl (eOpt_isNon _))
  · refine vfn_clo (k := 15) (ps := ["k", "time"]) (gl := ["balance_of"]) lc ["made", "life"] ["k", "time", "made", "life"] [("made", .obj fm), ("life", .int life)] rfl rfl (by decide +kernel) (by decide +kernel) (fun _ _ _ _ us hl => match us, hl with | [_, _], _ => rfl) (fun q hq => List.mem_map.mpr ⟨q, hq, rfl⟩) (List.Perm.refl _) List.mem_cons_self (fun ds v ⟨m, t, _, _, e, _⟩ => by rw [e] <;> rfl) fun X' B' ds v ⟨m, t, m1, m9, e1, e2⟩ lb => ?_
    subst e1 e2
    have C' := lb.C
    change PEv X' B' [some (.int m), some (.int t), some (.obj fm), some (.int life)] _ _ _
    exact pv_call C' gt lb.r (by decide +kernel) (pa_consv (pv_callV (L := L) (cl := cl) (O0 := Om) (Ob := [_, _]) C' (by exists "va") (by decide +kernel) Vm lb.r (List.mem_cons_of_mem _ (List.mem_cons_of_mem _ hm)) perm2 (by exists "ea") ⟨m, m1, m9, rfl, rfl⟩) (by exists "ea")) fun Φ Ψ z => ⟨mk m, life, t, rfl, okm m m1 m9, z⟩
def setA (log : List Ev) (i : Nat) (e : Ev) (m : Int) : List Ev := log.take i ++ (e.1, e.2.1, m) :: log.drop (i + 1)
theorem more2 {log : List Ev} {i : Nat} {e : Ev} (he : log[i]? = some e) (m : Int) : moreF (moreF log i (0 - e.2.2)) i m = setA log i e m := by
  have hi := (List.getElem?_eq_some_iff.mp he).1
  have h1 := moreF_at (m := 0 - e.2.2) he
  have ht : (log.take i).length = i := by rw [List.length_take]; omega
  have h2 : (moreF log i (0 - e.2.2))[i]? = some (e.1, e.2.1, e.2.2 + (0 - e.2.2)) := by
    rw [h1, List.getElem?_append_right (by omega), ht, Nat.sub_self] <;> rfl
  rw [moreF_at h2, h1]
  unfold setA
  rw [List.take_append_of_le_length (by omega), List.take_of_length_le (by omega), List.drop_append, List.drop_of_length_le (l := log.take i) (by omega), ht, show i + 1 - i = 1 by omega]
  show _ ++ (e.1, e.2.1, e.2.2 + (0 - e.2.2) + m) :: _ = _
  rw [show e.2.2 + (0 - e.2.2) + m = m by omega] <;> rfl
theorem ordR : ∀ {log : List Ev}, AscE log → OrdEv log
  | [], _ => fun p hp => (List.not_mem_nil hp).elim
  | [_], _ => fun p hp => (List.not_mem_nil hp).elim
  | a :: b :: r, h => by
    obtain ⟨h1, h2⟩ := List.pairwise_cons.mp h
    intro p hp
    rcases List.mem_cons.mp (show p ∈ (a, b) :: (b :: r).zip r from hp) with rfl | hp
    · exact h1 b List.mem_cons_self
    · exact ordR h2 p hp
theorem splitR {log : List Ev} {i : Nat} {e : Ev} (he : log[i]? = some e) : log = log.take i ++ e :: log.drop (i + 1) := by
  have hi := (List.getElem?_eq_some_iff.mp he).1
  have h2 := (List.getElem?_eq_some_iff.mp he).2
  have z := List.take_append_drop i log
  rw [List.drop_eq_getElem_cons hi, h2] at z
  exact z.symm
theorem ok_setA {log : List Ev} {i : Nat} {e : Ev} {m : Int} (ok : OkLog log) (he : log[i]? = some e) (m1 : 1 ≤ m) (m9 : m ≤ 1000000) : OkLog (setA log i e m) := by
  have hi := (List.getElem?_eq_some_iff.mp he).1
  have hev := ok.ev e (List.mem_of_getElem? he)
  refine ⟨fun x hx => ?_, ordR ?_, ?_⟩
  · rcases List.mem_append.mp hx with hx | hx
    · exact ok.ev x (List.mem_of_mem_take hx)
    · rcases List.mem_cons.mp hx with rfl | hx
      · exact ⟨hev.1, hev.2.1, m1, m9⟩
      · exact ok.ev x (List.mem_of_mem_drop hx)
  · have a := ascE_of_ord ok.ord
    rw [splitR he] at a
    have z : (setA log i e m).map (fun e : Ev => e.2.1) = (log.take i ++ e :: log.drop (i + 1)).map fun e : Ev => e.2.1 := by
      unfold setA
      rw [List.map_append, List.map_append, List.map_cons, List.map_cons]
    have a2 : ((log.take i ++ e :: log.drop (i + 1)).map fun e : Ev => e.2.1).Pairwise (· ≤ ·) := List.pairwise_map.mpr a
    rw [← z] at a2
    exact List.pairwise_map.mp a2
  · have := ok.len
    unfold setA
    rw [List.length_append, List.length_cons, List.length_take, List.length_drop]
    omega
def placeF (log : List Ev) (t : Int) : Nat := (log.filter fun e => decide (e.2.1 < t)).length
def putE (log : List Ev) (t m : Int) : List Ev := log.take (placeF log t) ++ (true, t, m) :: log.drop (placeF log t)
theorem place_cut {t : Int} : ∀ {log : List Ev}, AscE log → (∀ e ∈ log.take (placeF log t), e.2.1 < t) ∧ ∀ e ∈ log.drop (placeF log t), t ≤ e.2.1
  | [], _ => ⟨fun e h => by simp at h, fun e h => by simp at h⟩
  | x :: r, h => by
    obtain ⟨h1, h2⟩ := List.pairwise_cons.mp h
    obtain ⟨i1, i2⟩ := place_cut (t := t) h2
    by_cases c : x.2.1 < t
    · have e : placeF (x :: r) t = placeF r t + 1 := by
        unfold placeF
        rw [List.filter_cons_of_pos (by simpa using c), List.length_cons]
      rw [e, List.take_succ_cons, List.drop_succ_cons]
      refine ⟨fun y hy => ?_, i2⟩
      rcases List.mem_cons.mp hy with rfl | hy
      · exact c
      · exact i1 y hy
    · have e : placeF (x :: r) t = 0 := by
        unfold placeF
        rw [List.length_eq_zero_iff, List.filter_eq_nil_iff]
        intro y hy
        rcases List.mem_cons.mp hy with rfl | hy
        · simpa using c
        · have := h1 y hy
          simp only [decide_eq_true_eq]
          omega
      rw [e, List.take_zero, List.drop_zero]
      refine ⟨fun y hy => (List.not_mem_nil hy).elim, fun y hy => ?_⟩
      rcases List.mem_cons.mp hy with rfl | hy
      · omega
      · have := h1 y hy
        omega
theorem ok_putE {log : List Ev} {t m : Int} (ok : OkLog log) (hl : log.length ≤ 29) (t0 : 0 ≤ t) (t9 : t ≤ 10000) (m1 : 1 ≤ m) (m9 : m ≤ 1000000) : OkLog (putE log t m) := by
  have a := ascE_of_ord ok.ord
  obtain ⟨i1, i2⟩ := place_cut (t := t) a
  refine ⟨fun x hx => ?_, ordR ?_, ?_⟩
  · rcases List.mem_append.mp hx with hx | hx
    · exact ok.ev x (List.mem_of_mem_take hx)
    · rcases List.mem_cons.mp hx with rfl | hx
      · exact ⟨t0, t9, m1, m9⟩
      · exact ok.ev x (List.mem_of_mem_drop hx)
  · refine List.pairwise_append.mpr ⟨a.sublist (List.take_sublist _ _), List.pairwise_cons.mpr ⟨fun x hx => i2 x hx, a.sublist (List.drop_sublist _ _)⟩, fun x hx y hy => ?_⟩
    have := i1 x hx
    rcases List.mem_cons.mp hy with rfl | hy
    · exact Int.le_of_lt this
    · have := i2 y hy
      show x.2.1 ≤ y.2.1
      omega
  · unfold putE
    rw [List.length_append, List.length_cons, List.length_take, List.length_drop]
    omega
abbrev qAmount : Str := "fit_amount.<locals>.<lambda>"
def amountF (log : List Ev) (i : Nat) (e : Ev) (life : Int) (seen : List (Int × Int)) : Option (Int × Int) :=
  if e.1 = true then rangeF (fun m => setA log i e m) life seen
  else (rangeF (fun m => setA log i e (1000000 + 1 - m)) life seen).map fun p => (1000000 + 1 - p.2, 1000000 + 1 - p.1)
def spAmount (P R T : Addr) : DSp := fun ds O Φ _ => ∃ (log : List Ev) (i : Nat) (e : Ev) (seen : List (Int × Int)) (life : Int), ds = [.tup (log.map eEv), .int i, .tup (seen.map ePr), .int life] ∧ O = [(P, .tab qAmount), (T, .tab qRange), (R, .tab qBest)] ∧ OkLog log ∧ log[i]? = some e ∧ 1 ≤ life ∧ life ≤ 1000 ∧ OkSeen seen ∧
  Φ (eOP (amountF log i e life seen)) O
abbrev nAmount : List Str := ["log", "index", "seen", "life", "plain", "found"]
abbrev gAmount : List Str := ["need_log", "need_life", "is_from", "len", "InvalidIndex", "need_seen", "with_more", "range_for", "LARGEST"]
theorem sc_amount : FnScope nAmount ["log", "index", "seen", "life"] (defScope (topS 70)) := ⟨rfl, rfl, rfl, by decide +kernel, rfl, by decide +kernel, by decide +kernel⟩
theorem ok_amount {M : Mach} {f : Addr} {fd : FuncData} {k : Nat} {c P R T : Addr} (F : Fun M.K "fit_amount" "fit_amount" (topS 70) f fd) (h1 : ∃ t, M.mg "LARGEST" = some (.int 1000000 t)) (h2 : M.mg "len" = none) (g1 : GFn M "need_log" k spNeedLog) (g2 : GFn M "need_life" k spNeedLife) (gi : GFn M "is_from" k spIsFrom) (g3 : GFn M "need_seen" k spNeedSeen) (gw : GFn M "with_more" 14 spWithMore) (hk : 14 ≤ k) (gr : GFn M "range_for" k (spRange M T R))
    (hcode : fd.code = .ref c) (TB : LamX.TabB M.base M.mg c P) : FnOk M.P M.w M.K M.mg M.base (L2N.CX M.P M.w) (k + 1) f fd ["log", "index", "seen", "life"] (liftSp M.K (spAmount P R T)) := by
  refine fn_bodyC (N := nAmount) (vn := nAmount) (gl := gAmount) F sc_amount (by decide +kernel) (fun ds O Φ Ψ h => ?_) fun X B ds O Φ Ψ bd env h => ?_
  · obtain ⟨_, _, _, _, _, rfl, _⟩ := h
    rfl
  obtain ⟨log, i, e, seen, life, rfl, rfl, ok, he, l1, l2, oks, q⟩ := h
  obtain ⟨Ln, env⟩ := env
  have hq : X.env.qual ++ "<lambda>" = qAmount := by
    rw [env]
    show (envOfC "fit_amount" (defScope (topS 70)) Ln f fd.code).qual ++ "<lambda>" = qAmount
    rfl
  have hcode' : X.env.code = .ref c := by
    rw [env]
    exact hcode
  have C := bd.C
  have hi := (List.getElem?_eq_some_iff.mp he).1
  have hat := atE he
  have hlen := ok.len
  have hsl := oks.l2
  have hmP : ∀ {O' : Own}, (P, OV.tab (X.env.qual ++ "<lambda>")) ∈ (P, OV.tab qAmount) :: O' := by
    rw [hq]
    exact List.mem_cons_self
  have hml : (moreF log i (0 - e.2.2)).length ≤ 100 := by rw [moreF_len]; omega
  have hpl : (moreF log i (0 - e.2.2))[i]? = some (e.1, e.2.1, e.2.2 + (0 - e.2.2)) := by
    have ht : (log.take i).length = i := by rw [List.length_take]; omega
    rw [moreF_at he, List.getElem?_append_right (by omega), ht, Nat.sub_self] <;> rfl
  change WSs _ _ [some _, some _, some _, some _, none, none] _ _ _
  refine wss_cons (ws_expr (we_pv (pv_call C g1 bd.r (by decide +kernel) (by exists "ea") fun Φ Ψ z => ⟨log, rfl, ok, z⟩) ?_))
  exists "nx"
  refine wss_cons (ws_expr (we_pv (pv_call C g2 bd.r (by decide +kernel) (by exists "ea") fun Φ Ψ z => ⟨life, rfl, l1, l2, z⟩) ?_))
  exists "nx"
  refine wss_cons (ws_ifv (c := false) (PTv.to (pt_notv (ca := true) (pt_ofv (PEv.to (pv_call C gi bd.r (by decide +kernel) (by exists "ea") fun Φ Ψ z => ⟨_, _, _, _, rfl, .int _, z⟩) ?_))) rfl) (fun h => by cases h) fun _ => wss_nil ?_)
  · show D.bl (decide ((0 : Int) ≤ i) && decide ((i : Int) ≤ ((log.map eEv).length : Int) - 1)) = _
    rw [decide_eq_true (by omega), decide_eq_true (by rw [List.length_map]; omega)] <;> rfl
  exists "nx"
  refine wss_cons (ws_expr (we_pv (pv_call C g3 bd.r (by decide +kernel) (by exists "ea") fun Φ Ψ z => ⟨seen, rfl, oks, z⟩) ?_))
  exists "nx"
  refine wss_cons (ws_set C (by exists "sa") (by decide +kernel) (we_pv (pv_call C gw (bd.r.mono hk) (by decide +kernel) (pa_consv (by exists "ev") (pa_consv (by exists "ev") (pa_consv (pv_sub pv_int (pv_ix (pv_ix (by exists "ev") (by exists "ev") .tup hat) pv_int .tup at2)) pa_nilv))) fun Φ Ψ z => ⟨log, i, 0 - e.2.2, e, rfl, he, by omega, z⟩) ?_))
  exists "nx"
  generalize hpd : moreF log i (0 - e.2.2) = pl at hml hpl
  have mk2 : ∀ m, moreF pl i m = setA log i e m := fun m => by rw [← hpd, more2 he]
  refine wss_cons (ws_ifv (c := e.1) (PTv.to (pt_eq (pv_ix (pv_ix (by exists "ev") (by exists "ev") .tup hat) pv_int .tup at0) (by exists "ev") rfl) (kW_earn e.1)) (fun hc => ?_) fun hc => wss_nil ?_)
  · unfold amountF at q
    rw [if_pos hc] at q
    have hx : ∀ q ∈ ([("plain", .tup (pl.map eEv)), ("index", .int i)] : NDs), VarAt nAmount [some (.tup (log.map eEv)), some (.int i), some (.tup (seen.map ePr)), some (.int life), some (.tup (pl.map eEv)), none] q.1 q.2 := fun q hq => by
      simp only [List.mem_cons, List.not_mem_nil, or_false] at hq
      rcases hq with rfl | rfl <;> exists "va"
    refine wss_one (ws_ret (we_less (we_callC ["plain", "index"] [("plain", .tup (pl.map eEv)), ("index", .int i)] C gr bd.r (by decide +kernel) hx rfl (by decide +kernel) (by decide +kernel) (wa_cons (we_lamC C TB hcode' hmP (by decide +kernel) fun f1 => wa_pv (by exists "ea") fun ca co lc => ?_)))))
    refine ⟨_, _, eOP (rangeF (fun m => setA log i e m) life seen), permE, fun Φ' Ψ' z => ⟨f1, life, seen, _, _, _, fun m => setA log i e m, rfl, rfl, List.mem_append_right _ List.mem_cons_self, ?_, fun m m1 m9 => ok_setA ok he m1 m9, by omega, z⟩, _, List.sublist_cons_self _ _, q⟩
    refine vfn_clo (k := 14) (ps := ["amount"]) (gl := ["with_more"]) lc ["plain", "index"] ["amount", "plain", "index"] [("plain", .tup (pl.map eEv)), ("index", .int i)] rfl rfl (by decide +kernel) (by decide +kernel) (fun _ _ _ _ us hl => match us, hl with | [_], _ => rfl) (fun q hq => List.mem_map.mpr ⟨q, hq, rfl⟩) (List.Perm.refl _) List.mem_cons_self (fun ds v ⟨m, _, _, e, _⟩ => by rw [e] <;> rfl) fun X' B' ds v ⟨m, m1, m9, e1, e2⟩ lb => ?_
    subst e1 e2
    have C' := lb.C
    change PEv X' B' [some (.int m), some (.tup (pl.map eEv)), some (.int i)] _ _ _
    exact pv_call C' gw lb.r (by decide +kernel) (by exists "ea") fun Φ Ψ z => ⟨pl, i, m, _, rfl, hpl, hml, by rw [mk2]; exact z⟩
  · exists "nx"
    unfold amountF at q
    rw [if_neg (by rw [hc]; exact Bool.false_ne_true)] at q
    have hx : ∀ q ∈ ([("plain", .tup (pl.map eEv)), ("index", .int i)] : NDs), VarAt nAmount [some (.tup (log.map eEv)), some (.int i), some (.tup (seen.map ePr)), some (.int life), some (.tup (pl.map eEv)), none] q.1 q.2 := fun q hq => by
      simp only [List.mem_cons, List.not_mem_nil, or_false] at hq
      rcases hq with rfl | rfl <;> exists "va"
    refine wss_cons (ws_set C (by exists "sa") (by decide +kernel) (we_callC ["plain", "index"] [("plain", .tup (pl.map eEv)), ("index", .int i)] C gr bd.r (by decide +kernel) hx rfl (by decide +kernel) (by decide +kernel) (wa_cons (we_lamC C TB hcode' hmP (by decide +kernel) fun f1 => wa_pv (by exists "ea") fun ca co lc => ?_))))
    refine ⟨_, _, eOP (rangeF (fun m => setA log i e (1000000 + 1 - m)) life seen), permE, fun Φ' Ψ' z => ⟨f1, life, seen, _, _, _, fun m => setA log i e (1000000 + 1 - m), rfl, rfl, List.mem_append_right _ List.mem_cons_self, ?_, fun m m1 m9 => ok_setA ok he (by omega) (by omega), by omega, z⟩, ?_⟩
    · refine vfn_clo (k := 14) (ps := ["rest"]) (gl := ["with_more", "LARGEST"]) lc ["plain", "index"] ["rest", "plain", "index"] [("plain", .tup (pl.map eEv)), ("index", .int i)] rfl rfl (by decide +kernel) (by decide +kernel) (fun _ _ _ _ us hl => match us, hl with | [_], _ => rfl) (fun q hq => List.mem_map.mpr ⟨q, hq, rfl⟩) (List.Perm.refl _) List.mem_cons_self (fun ds v ⟨m, _, _, e, _⟩ => by rw [e] <;> rfl) fun X' B' ds v ⟨m, m1, m9, e1, e2⟩ lb => ?_
      subst e1 e2
      have C' := lb.C
      change PEv X' B' [some (.int m), some (.tup (pl.map eEv)), some (.int i)] _ _ _
      exact pv_call C' gw lb.r (by decide +kernel) (by exists "ea") fun Φ Ψ z => ⟨pl, i, 1000000 + 1 - m, _, rfl, hpl, hml, by rw [mk2]; exact z⟩
    exists "nx"
    refine wss_forget (O' := [(P, .tab qAmount), (T, .tab qRange), (R, .tab qBest)]) (List.sublist_cons_self _ _) ?_
    generalize rangeF (fun m => setA log i e (1000000 + 1 - m)) life seen = r at q ⊢
    cases r with
    | none =>
      change WSs _ _ [some (.tup (log.map eEv)), some (.int i), some (.tup (seen.map ePr)), some (.int life), some (.tup (pl.map eEv)), some .non] _ _ _
      exact wss_one (ws_ret (we_pv (PEv.to (d' := .non) (pv_if (ca := true) (d1 := .non) (d2 := .non) (PTv.to (pt_is (by exists "ev") (by exists "ev")) rfl) (fun _ => pv_non) fun h => by cases h) rfl) q))
    | some r =>
      change WSs _ _ [some (.tup (log.map eEv)), some (.int i), some (.tup (seen.map ePr)), some (.int life), some (.tup (pl.map eEv)), some (.tup [.int r.1, .int r.2])] _ _ _
      exact wss_one (ws_ret (we_pv (PEv.to (d' := .tup [.int (1000000 + 1 - r.2), .int (1000000 + 1 - r.1)]) (pv_if (ca := false) (d1 := .non) (d2 := .tup [.int (1000000 + 1 - r.2), .int (1000000 + 1 - r.1)]) (PTv.to (pt_is (by exists "ev") (by exists "ev")) rfl) (fun h => by cases h) fun _ => (by exists "ev")) rfl) q))
abbrev qEarning : Str := "fit_earning.<locals>.<lambda>"
def earningF (log : List Ev) (t life : Int) (seen : List (Int × Int)) : Option (Int × Int) := rangeF (fun m => putE log t m) life seen
def spEarning (P R T : Addr) : DSp := fun ds O Φ _ => ∃ (log : List Ev) (t : Int) (seen : List (Int × Int)) (life : Int), ds = [.tup (log.map eEv), .int t, .tup (seen.map ePr), .int life] ∧ O = [(P, .tab qEarning), (T, .tab qRange), (R, .tab qBest)] ∧ OkLog log ∧ log.length ≤ 29 ∧ 0 ≤ t ∧ t ≤ 10000 ∧ 1 ≤ life ∧ life ≤ 1000 ∧ OkSeen seen ∧
  Φ (eOP (earningF log t life seen)) O
abbrev nEarning : List Str := ["log", "time", "seen", "life", "place", "event"]
abbrev gEarning : List Str := ["need_log", "need_life", "is_from", "len", "InvalidTime", "need_seen", "TooMany", "range_for", "LAST_TIME", "MOST_EVENTS"]
theorem sc_earning : FnScope nEarning ["log", "time", "seen", "life"] (defScope (topS 71)) := ⟨rfl, rfl, rfl, by decide +kernel, rfl, by decide +kernel, by decide +kernel⟩
theorem ok_earning {M : Mach} {f : Addr} {fd : FuncData} {k : Nat} {c P R T : Addr} (F : Fun M.K "fit_earning" "fit_earning" (topS 71) f fd) (h1 : ∃ t, M.mg "LAST_TIME" = some (.int 10000 t)) (h2 : M.mg "len" = none) (h3 : ∃ t, M.mg "MOST_EVENTS" = some (.int 30 t)) (g1 : GFn M "need_log" k spNeedLog) (g2 : GFn M "need_life" k spNeedLife) (gi : GFn M "is_from" k spIsFrom) (g3 : GFn M "need_seen" k spNeedSeen) (gr : GFn M "range_for" k (spRange M T R))
    (hcode : fd.code = .ref c) (TB : LamX.TabB M.base M.mg c P) : FnOk M.P M.w M.K M.mg M.base (L2N.CX M.P M.w) (k + 1) f fd ["log", "time", "seen", "life"] (liftSp M.K (spEarning P R T)) := by
  refine fn_bodyC (N := nEarning) (vn := ["log", "time", "seen", "life", "place"]) (gl := gEarning) F sc_earning (by decide +kernel) (fun ds O Φ Ψ h => ?_) fun X B ds O Φ Ψ bd env h => ?_
  · obtain ⟨_, _, _, _, rfl, _⟩ := h
    rfl
  obtain ⟨log, t, seen, life, rfl, rfl, ok, hlen, t0, t9, l1, l2, oks, q⟩ := h
  obtain ⟨Ln, env⟩ := env
  have hq : X.env.qual ++ "<lambda>" = qEarning := by
    rw [env]
    show (envOfC "fit_earning" (defScope (topS 71)) Ln f fd.code).qual ++ "<lambda>" = qEarning
    rfl
  have hcode' : X.env.code = .ref c := by
    rw [env]
    exact hcode
  have C := bd.C
  have hsl := oks.l2
  have hmP : ∀ {O' : Own}, (P, OV.tab (X.env.qual ++ "<lambda>")) ∈ (P, OV.tab qEarning) :: O' := by
    rw [hq]
    exact List.mem_cons_self
  change WSs _ _ [some _, some _, some _, some _, none, none] _ _ _
  refine wss_cons (ws_expr (we_pv (pv_call C g1 bd.r (by decide +kernel) (by exists "ea") fun Φ Ψ z => ⟨log, rfl, ok, z⟩) ?_))
  exists "nx"
  refine wss_cons (ws_expr (we_pv (pv_call C g2 bd.r (by decide +kernel) (by exists "ea") fun Φ Ψ z => ⟨life, rfl, l1, l2, z⟩) ?_))
  exists "nx"
  refine wss_cons (ws_ifv (c := false) (PTv.to (pt_notv (ca := true) (pt_ofv (PEv.to (pv_call C gi bd.r (by decide +kernel) (by exists "ea") fun Φ Ψ z => ⟨_, _, _, _, rfl, .int _, z⟩) ?_))) rfl) (fun h => by cases h) fun _ => wss_nil ?_)
  · show D.bl (decide ((0 : Int) ≤ t) && decide (t ≤ 10000)) = _
    rw [decide_eq_true (by omega), decide_eq_true (by omega)] <;> rfl
  exists "nx"
  refine wss_cons (ws_expr (we_pv (pv_call C g3 bd.r (by decide +kernel) (by exists "ea") fun Φ Ψ z => ⟨seen, rfl, oks, z⟩) ?_))
  exists "nx"
  refine wss_cons (ws_ifv (c := false) (PTv.to (pt_eq (by exists "ev") (by exists "ev") rfl) (decide_eq_false (by rw [List.length_map]; omega))) (fun h => by cases h) fun _ => wss_nil ?_)
  exists "nx"
  refine wss_cons (ws_set C (by exists "sa") (by decide +kernel) (we_pv (PEv.to (d' := .int (placeF log t : Nat)) (pv_len C (pv_frz (pn_lc (own := [("event", 5)]) (xs := log) (enc := eEv) (c := fun e : Ev => decide (e.2.1 < t)) (f := eEv) C (by decide +kernel) (wiv_tup (by exists "ev")) (fun p hp => (List.not_mem_nil hp).elim) (by omega) fun l hl => ⟨fun X' B' b => ?_⟩)) .lst h2 (by decide +kernel)) (by rw [List.length_map]; rfl)) ?_))
  · have C' := b.C
    exists "wp"
    refine wg_name C' (by exists "sa") (by decide +kernel) (by decide) ⟨rfl, fun X2 b2 => ?_, fun _ X3 b3 => ?_⟩
    · have C2 := b2.C
      exact wf_pv (by exists "et") ⟨rfl, rfl⟩
    · have C3 := b3.C
      exists "ev"
  exists "nx"
  have hx : ∀ q ∈ ([("log", .tup (log.map eEv)), ("time", .int t), ("place", .int (placeF log t : Nat))] : NDs), VarAt nEarning [some (.tup (log.map eEv)), some (.int t), some (.tup (seen.map ePr)), some (.int life), some (.int (placeF log t : Nat)), none] q.1 q.2 := fun q hq => by
    simp only [List.mem_cons, List.not_mem_nil, or_false] at hq
    rcases hq with rfl | rfl | rfl <;> exists "va"
  refine wss_one (ws_ret (we_less (we_callC ["log", "time", "place"] [("log", .tup (log.map eEv)), ("time", .int t), ("place", .int (placeF log t : Nat))] C gr bd.r (by decide +kernel) hx rfl (by decide +kernel) (by decide +kernel) (wa_cons (we_lamC C TB hcode' hmP (by decide +kernel) fun f1 => wa_pv (by exists "ea") fun ca co lc => ?_)))))
  refine ⟨_, _, eOP (earningF log t life seen), permE, fun Φ' Ψ' z => ⟨f1, life, seen, _, _, _, fun m => putE log t m, rfl, rfl, List.mem_append_right _ List.mem_cons_self, ?_, fun m m1 m9 => ok_putE ok hlen t0 t9 m1 m9, by omega, z⟩, _, List.sublist_cons_self _ _, q⟩
  refine vfn_clo (k := 14) (ps := ["amount"]) (gl := []) lc ["log", "time", "place"] ["amount", "log", "time", "place"] [("log", .tup (log.map eEv)), ("time", .int t), ("place", .int (placeF log t : Nat))] rfl rfl (by decide +kernel) (by decide +kernel) (fun _ _ _ _ us hl => match us, hl with | [_], _ => rfl) (fun q hq => List.mem_map.mpr ⟨q, hq, rfl⟩) (List.Perm.refl _) List.mem_cons_self (fun ds v ⟨m, _, _, e, _⟩ => by rw [e] <;> rfl) fun X' B' ds v ⟨m, m1, m9, e1, e2⟩ lb => ?_
  subst e1 e2
  have C' := lb.C
  change PEv X' B' [some (.int m), some (.tup (log.map eEv)), some (.int t), some (.int (placeF log t : Nat))] _ _ _
  refine PEv.to (pv_catT (pv_catT (pv_sliceT (by exists "ev") .none (.some (by exists "ev"))) (by exists "ev") ?_) (pv_sliceT (by exists "ev") (.some (by exists "ev")) .none) ?_) ?_
  · rw [cut_to, List.length_take, List.length_map]
    show min _ log.length + 1 ≤ 1000000
    omega
  · rw [cut_to, cut_from, List.length_append, List.length_take, List.length_drop, List.length_map]
    show min _ log.length + 1 + (log.length - _) ≤ 1000000
    omega
  · rw [cut_to, cut_from]
    unfold putE
    rw [List.map_append, List.map_cons, List.map_take, List.map_drop, List.append_assoc] <;> rfl
theorem lap_nil {life t : Int} : lapseF life t [] = ([], []) := rfl
theorem lap_hit {life t l n i : Int} {r a b : List Lot} (h : l + life ≤ t) (k : lapseF life t r = (a, b)) : lapseF life t ((l, n, i) :: r) = (a, (l + life, n, i) :: b) := by
  rw [lapseF, if_pos h, k]
theorem lap_no {life t l n i : Int} {r : List Lot} (h : t < l + life) : lapseF life t ((l, n, i) :: r) = ((l, n, i) :: r, []) := by
  rw [lapseF, if_neg (by dsimp only; omega)]
theorem tak_no {ls : List Lot} {n : Int} (h : n ≤ 0) : takeF ls n = (ls, []) := by
  cases ls with
  | nil => rfl
  | cons l r => rw [takeF, if_neg (by omega)]
theorem tak_all {l m i n : Int} {r a : List Lot} {b : List (Int × Int)} (h : 0 < n) (h2 : m ≤ n) (k : takeF r (n - m) = (a, b)) : takeF ((l, m, i) :: r) n = (a, (i, m) :: b) := by
  rw [takeF, if_pos h, if_pos h2]
  dsimp only
  rw [k]
theorem tak_part {l m i n : Int} {r : List Lot} (h : 0 < n) (h2 : n < m) : takeF ((l, m, i) :: r) n = ((l, m - n, i) :: r, [(i, n)]) := by
  rw [takeF, if_pos h, if_neg (by dsimp only; omega)]
section
variable {life til t n : Int} {i : Nat} {r : List Ev} {ls gs l1 g1 l2 : List Lot} {ts : List Tk} {tk : List (Int × Int)} {out : Pl}
theorem rn_nil : runF life til i [] ls gs ts = (ls, gs, ts, none) := rfl
theorem rn_skip (h : til < t) {kd : Bool} (k : runF life til (i + 1) r ls gs ts = out) : runF life til i ((kd, t, n) :: r) ls gs ts = out := by
  rw [runF, if_neg (by dsimp only; omega), k]
theorem rn_earn (h : t ≤ til) (hl : lapseF life t ls = (l1, g1)) (k : runF life til (i + 1) r (l1 ++ [(t, n, (i : Int))]) (gs ++ g1) ts = out) : runF life til i ((true, t, n) :: r) ls gs ts = out := by
  rw [runF, if_pos h, if_pos rfl]
  dsimp only
  rw [hl, k]
theorem rn_spend (h : t ≤ til) (hl : lapseF life t ls = (l1, g1)) (hn : n ≤ total l1) (ht : takeF l1 n = (l2, tk)) (k : runF life til (i + 1) r l2 (gs ++ g1) (ts ++ [tk]) = out) : runF life til i ((false, t, n) :: r) ls gs ts = out := by
  rw [runF, if_pos h, if_neg Bool.false_ne_true]
  dsimp only
  rw [hl, if_neg (by dsimp only; omega)]
  dsimp only
  rw [ht, k]
theorem rn_ref (h : t ≤ til) (hl : lapseF life t ls = (l1, g1)) (hn : total l1 < n) : runF life til i ((false, t, n) :: r) ls gs ts = (l1, gs ++ g1, ts, some i) := by
  rw [runF, if_pos h, if_neg Bool.false_ne_true]
  dsimp only
  rw [hl, if_pos hn]
theorem pl_ok {log : List Ev} (hr : runF life til 0 log [] [] [] = (l1, g1, ts, none)) (hl : lapseF life til l1 = (l2, gs)) : playF life til log = (l2, g1 ++ gs, ts, none) := by
  unfold playF endF
  rw [hr]
  dsimp only
  rw [hl]
theorem pl_ref {log : List Ev} (hr : runF life til 0 log [] [] [] = (l1, g1, ts, some i)) : playF life til log = (l1, g1, ts, some i) := by
  unfold playF endF
  rw [hr]
end
local macro_rules | `(tactic| exists "lap") => `(tactic| with_reducible first | exact lap_nil | exact lap_no (by omega) | exact lap_hit (by omega) (by exists "lap"))
local macro_rules | `(tactic| exists "tak") => `(tactic| with_reducible first | exact tak_no (by omega) | exact tak_part (by omega) (by omega) | exact tak_all (by omega) (by omega) (by exists "tak"))
local macro_rules | `(tactic| exists "tot") => `(tactic| (simp only [total_cons, total_nil] <;> omega))
local macro_rules | `(tactic| exists "rn") => `(tactic| (try dsimp only [List.cons_append, List.nil_append]) <;> first
  | with_reducible exact rn_nil
  | ((with_reducible refine rn_earn (by omega) (by exists "lap") ?_); exists "rn")
  | ((with_reducible refine rn_spend (by omega) (by exists "lap") (by exists "tot") (by exists "tak") ?_); exists "rn")
  | ((with_reducible exact rn_ref (by omega) (by exists "lap") (by exists "tot")))
  | ((with_reducible refine rn_skip (by omega) ?_); exists "rn"))
theorem vd_tks (cs : List Tk) (h1 : cs.length ≤ 1000) (h2 : ∀ c ∈ cs, c.length ≤ 1000) : VD (.tup (cs.map eTk)) := by
  refine .tup (fun d hd => ?_) (by rw [List.length_map]; exact h1)
  obtain ⟨c, hc, rfl⟩ := List.mem_map.mp hd
  refine .tup (fun d hd => ?_) (by rw [List.length_map]; exact h2 c hc)
  obtain ⟨p, hp, rfl⟩ := List.mem_map.mp hd
  refine .tup (fun d hd => ?_) (Nat.le_of_ble_eq_true rfl)
  simp only [List.mem_cons, List.not_mem_nil, or_false] at hd
  rcases hd with rfl | rfl
  · exact .int _
  · exact .int _
theorem keys_all {one other : List (Int × Int)} {P : List Int → Prop} (ks : List Int) (h : KeysOf one other ks) (p : P ks) : ∀ ks', KeysOf one other ks' → P ks' := fun ks' h' => by
  rw [asc_same h'.1 h.1 fun k => (h'.2 k).trans (h.2 k).symm]
  exact p
theorem getI_hd {k v : Int} {r : List (Int × Int)} : getI ((k, v) :: r) k = some v := by
  unfold getI
  rw [List.find?_cons_of_pos (by simp)] <;> rfl
theorem firstI_eq {g : Int → Bool} {c : Int} : ∀ (n : Nat) {lo hi : Int}, (hi + 1 - lo).toNat ≤ n → lo ≤ c → c ≤ hi + 1 → (∀ k, lo ≤ k → k < c → g k = false) → (∀ k, c ≤ k → k ≤ hi → g k = true) → firstI g lo hi = c
  | 0, lo, hi, hn, h1, h2, _, _ => by rw [firstI_end g (by omega)]; omega
  | n + 1, lo, hi, hn, h1, h2, hf, ht => by
    by_cases c0 : lo ≤ hi
    · rw [firstI_step g c0]
      cases hm : g ((lo + hi) / 2) with
      | true =>
        have : c ≤ (lo + hi) / 2 := by
          apply Int.not_lt.mp
          intro z
          rw [hf _ (by omega) z] at hm
          cases hm
        rw [if_pos rfl]
        exact firstI_eq n (by omega) h1 (by omega) hf fun k a b => ht k a (by omega)
      | false =>
        have : (lo + hi) / 2 < c := by
          apply Int.not_le.mp
          intro z
          rw [ht _ z (by omega)] at hm
          cases hm
        rw [if_neg Bool.false_ne_true]
        exact firstI_eq n (by omega) (by omega) h2 (fun k a b => hf k (by omega) b) ht
    · rw [firstI_end g (by omega)]; omega
theorem first_eq {g : Int → Bool} {lo hi : Int} (c : Int) (h1 : lo ≤ c) (h2 : c ≤ hi + 1) (hf : ∀ k, lo ≤ k → k < c → g k = false) (ht : ∀ k, c ≤ k → k ≤ hi → g k = true) : firstI g lo hi = c := firstI_eq _ (Nat.le_refl _) h1 h2 hf ht
theorem best_one {th : Int → Int → Int} {t n lo hi a b : Int} (ha : firstI (fun k => decide (n ≤ th k t)) lo hi = a) (hb : firstI (fun k => decide (n < th k t)) a hi = b) : bestF th [(t, n)] lo hi = if a ≤ b - 1 then some (a, b - 1) else none := by
  rw [bestF, bestF]
  dsimp only
  rw [ha, hb]
theorem range_one {mk : Int → List Ev} {life t n : Int} (c a b : Int) (c1 : 1 ≤ c) (ca : c ≤ a) (ab : a ≤ b) (b9 : b ≤ 1000001) (k1 : ∀ k, 1 ≤ k → k < c → covF (mk k) life = false) (k2 : ∀ k, c ≤ k → k ≤ 1000000 → covF (mk k) life = true)
    (k3 : ∀ k, c ≤ k → k < a → thF (mk k) life t < n) (k4 : ∀ k, a ≤ k → k ≤ 1000000 → n ≤ thF (mk k) life t) (k5 : ∀ k, a ≤ k → k < b → thF (mk k) life t ≤ n) (k6 : ∀ k, b ≤ k → k ≤ 1000000 → n < thF (mk k) life t) : rangeF mk life [(t, n)] = if a ≤ b - 1 then some (a, b - 1) else none := by
  unfold rangeF
  rw [first_eq c c1 (by omega) k1 k2]
  exact best_one (first_eq a ca (by omega) (fun k x y => decide_eq_false (by have := k3 k x y; omega)) fun k x y => decide_eq_true (k4 k x y)) (first_eq b ab (by omega) (fun k x y => decide_eq_false (by have := k5 k x y; omega)) fun k x y => decide_eq_true (k6 k x y))
theorem th_eq {log : List Ev} {life t n : Int} {p : Pl} (h : playF life t log = p) (hn : total p.1 = n) : thF log life t = n := by
  unfold thF
  rw [h, hn]
abbrev E1 (t n : Int) : List Ev := [(true, t, n)]
theorem e1_lt {L m t n : Int} (h : m < t) : playF L m (E1 t n) = ([], [], [], none) := by
  refine Eq.trans (pl_ok (by exists "rn") (by exists "lap")) ?_
  rfl
theorem e1_in {L m t n : Int} (h1 : t ≤ m) (h2 : m < t + L) : playF L m (E1 t n) = ([(t, n, ((0 : Nat) : Int))], [], [], none) := by
  refine Eq.trans (pl_ok (by exists "rn") (by exists "lap")) ?_
  rfl
theorem e1_gone {L m t n : Int} (h0 : 0 ≤ L) (h : t + L ≤ m) : playF L m (E1 t n) = ([], [(t + L, n, ((0 : Nat) : Int))], [], none) := by
  refine Eq.trans (pl_ok (by exists "rn") (by exists "lap")) ?_
  rfl
theorem e1_no {L m t n : Int} (h0 : 0 ≤ L) : (playF L m (E1 t n)).2.2.2 = none := by
  rcases (by omega : m < t ∨ (t ≤ m ∧ m < t + L) ∨ t + L ≤ m) with h | ⟨h1, h2⟩ | h
  · rw [e1_lt h]
  · rw [e1_in h1 h2]
  · rw [e1_gone h0 h]
theorem e1_ok {t n : Int} (t0 : 0 ≤ t) (t1 : t ≤ 10000) (n1 : 1 ≤ n) (n2 : n ≤ 1000000) : OkLog (E1 t n) := ⟨fun e he => by rw [List.mem_singleton.mp he]; exact ⟨t0, t1, n1, n2⟩, fun p hp => (List.not_mem_nil hp).elim, Nat.le_of_ble_eq_true rfl⟩
theorem e1_fine {t n L : Int} (t0 : 0 ≤ t) (t1 : t ≤ 10000) (n1 : 1 ≤ n) (n2 : n ≤ 1000000) (l1 : 1 ≤ L) (l2 : L ≤ 1000) : Fine (E1 t n) L := ⟨e1_ok t0 t1 n1 n2, l1, l2, e1_no (by omega)⟩
theorem e1_th {L m t n : Int} : thF (E1 t n) L m = if m < t then 0 else if m < t + L then n else if 0 ≤ L then 0 else thF (E1 t n) L m := by
  split
  · exact th_eq (e1_lt (by omega)) rfl
  · split
    · exact th_eq (e1_in (by omega) (by omega)) (by exists "tot")
    · split
      · exact th_eq (e1_gone (by omega) (by omega)) rfl
      · rfl
theorem e1_cov {L t n : Int} (h0 : 0 ≤ L) : covF (E1 t n) L = true := by
  unfold covF
  rw [e1_no h0] <;> rfl
theorem e1_laps {t n L : Int} (h0 : 0 ≤ L) (h : t + L ≤ 12000) : lapsesF (E1 t n) L = [(t + L, n)] := by
  unfold lapsesF
  rw [e1_gone h0 h] <;> rfl
theorem bal_one {v : Int} : ([9999, 10000, 10999, 11000] : List Int).map (fun m => total (playF 1000 m (E1 10000 v)).1) = [0, v, v, 0] := by
  simp only [List.map_cons, List.map_nil]
  rw [e1_lt (by decide), e1_in (by decide) (by decide), e1_in (by decide) (by decide), e1_gone (by decide) (by decide)]
  simp only [total_cons, total_nil, List.cons.injEq, and_true, true_and]
  omega
theorem worst_one {v : Int} : worstF (E1 10000 v) 11000 1000 = some 11000 := by
  unfold worstF
  rw [e1_laps (by decide) (by decide)] <;> rfl
theorem go1 {a x y : Int} : goF [(a, x)] [(a, y)] [a] 0 = if 0 < 0 + (x - y) then some a else none := by
  rw [goF, goF, getI_hd, getI_hd] <;> rfl
theorem keys1 {a : Int} {one other : List (Int × Int)} (h1 : one.map (·.1) = [a]) (h2 : other.map (·.1) = [a]) : KeysOf one other [a] := by
  refine ⟨List.pairwise_singleton _ _, fun k => ?_⟩
  rw [h1, h2]
  simp
theorem mov_one {v : Int} : MoV (E1 10000 v) 0 1000 11000 := keys_all [11000] (by rw [show moreF (E1 10000 v) 0 1 = E1 10000 (v + 1) from rfl, e1_laps (by decide) (by decide), e1_laps (by decide) (by decide)]; exact keys1 rfl rfl) (by
  rw [show moreF (E1 10000 v) 0 1 = E1 10000 (v + 1) from rfl, e1_laps (by decide) (by decide), e1_laps (by decide) (by decide)]
  exact Eq.trans go1 (if_pos (by omega)))
theorem save_one {v : Int} : saveF (E1 10000 v) 1 = [(10000, v)] := by
  unfold saveF
  rw [e1_laps (by decide) (by decide)] <;> rfl
theorem res_one {v m : Int} (m0 : 0 ≤ m) (m1 : m ≤ v) : (resF 1 m (lapsesF (E1 10000 v) 1) 0 0).2 = m := by
  rw [e1_laps (by decide) (by decide)]
  simp only [resF, ptF, stF, imax, imin]
  repeat' split
  all_goals omega
theorem amount_one {v : Int} (v1 : 1 ≤ v) (v2 : v ≤ 1000000) : amountF (E1 10000 v) 0 (true, 10000, v) 5 [(10000, v)] = some (v, v) := by
  unfold amountF
  rw [if_pos rfl]
  have th : ∀ k : Int, thF (setA (E1 10000 v) 0 (true, 10000, v) k) 5 10000 = k := fun k => by
    rw [show setA (E1 10000 v) 0 (true, 10000, v) k = E1 10000 k from rfl, e1_th, if_neg (by decide), if_pos (by decide)]
  rw [range_one (mk := fun m => setA (E1 10000 v) 0 (true, 10000, v) m) 1 v (v + 1) (by decide) (by omega) (by omega) (by omega) (fun k a b => by omega) (fun k a b => e1_cov (by decide)) (fun k a b => by rw [th]; omega) (fun k a b => by rw [th]; omega) (fun k a b => by rw [th]; omega) (fun k a b => by rw [th]; omega), if_pos (by omega), show v + 1 - 1 = v by omega]
theorem earning_one {v : Int} (v1 : 1 ≤ v) (v2 : v ≤ 1000000) : earningF [] 10000 5 [(10000, v)] = some (v, v) := by
  unfold earningF
  have th : ∀ k : Int, thF (putE [] 10000 k) 5 10000 = k := fun k => by
    rw [show putE [] 10000 k = E1 10000 k from rfl, e1_th, if_neg (by decide), if_pos (by decide)]
  rw [range_one (mk := fun m => putE [] 10000 m) 1 v (v + 1) (by decide) (by omega) (by omega) (by omega) (fun k a b => by omega) (fun k a b => e1_cov (by decide)) (fun k a b => by rw [th]; omega) (fun k a b => by rw [th]; omega) (fun k a b => by rw [th]; omega) (fun k a b => by rw [th]; omega), if_pos (by omega), show v + 1 - 1 = v by omega]
theorem cov1_one {v : Int} : firstI (covF (E1 10000 v)) 1 1000 = 1 := first_eq 1 (by decide) (by decide) (fun k a b => by omega) fun k a b => e1_cov (by omega)
theorem th_one {v k : Int} (k1 : 1 ≤ k) : thF (E1 10000 v) k 10500 = if 501 ≤ k then v else 0 := by
  rw [e1_th, if_neg (by decide)]
  by_cases h : 501 ≤ k
  · rw [if_pos (by omega), if_pos h]
  · rw [if_neg (by omega), if_pos (by omega), if_neg h]
theorem fit_one {v : Int} (v1 : 1 ≤ v) : fitF (E1 10000 v) [(10500, v)] = some (501, 1000) := by
  unfold fitF
  rw [cov1_one, best_one (a := 501) (b := 1001) (first_eq 501 (by decide) (by decide) (fun k a b => ?_) fun k a b => ?_) (first_eq 1001 (by decide) (by decide) (fun k a b => ?_) fun k a b => by omega), if_pos (by decide)]
  · rfl
  · rw [th_one a, if_neg (by omega)]; exact decide_eq_false (by omega)
  · rw [th_one (by omega), if_pos (by omega)]; exact decide_eq_true (by omega)
  · rw [th_one (by omega), if_pos (by omega)]; exact decide_eq_false (by omega)
theorem fit_one0 {v : Int} (v1 : 1 ≤ v) : fitF (E1 10000 v) [(10500, 0)] = some (1, 500) := by
  unfold fitF
  rw [cov1_one, best_one (a := 1) (b := 501) (first_eq 1 (by decide) (by decide) (fun k a b => by omega) fun k a b => ?_) (first_eq 501 (by decide) (by decide) (fun k a b => ?_) fun k a b => ?_), if_pos (by decide)]
  · rfl
  · rw [th_one a]; exact decide_eq_true (by split <;> omega)
  · rw [th_one a, if_neg (by omega)]; exact decide_eq_false (by omega)
  · rw [th_one (by omega), if_pos (by omega)]; exact decide_eq_true (by omega)
theorem n_ok : OkLog [] := ⟨fun _ h => (List.not_mem_nil h).elim, fun _ h => (List.not_mem_nil h).elim, Nat.zero_le _⟩
theorem n_fine {L : Int} (l1 : 1 ≤ L) (l2 : L ≤ 1000) : Fine [] L := ⟨n_ok, l1, l2, rfl⟩
theorem fit_none : fitF [] [(0, 0)] = some (1, 1000) := by
  unfold fitF
  rw [first_eq (g := covF []) 1 (by decide) (by decide) (fun k a b => by omega) (fun k a b => rfl), best_one (a := 1) (b := 1001) (first_eq 1 (by decide) (by decide) (fun k a b => by omega) fun k a b => rfl) (first_eq 1001 (by decide) (by decide) (fun k a b => rfl) fun k a b => by omega), if_pos (by decide)]
  rfl
abbrev B19 (v : Int) : List Ev := [(true, 7, v), (false, 7, v)]
section
variable {v : Int} (v1 : 1 ≤ v) (v2 : v ≤ 1000000)
include v1
theorem both_in {m : Int} (h : 7 ≤ m) : playF 1 m (B19 v) = ([], [], [[(((0 : Nat) : Int), v)]], none) := by
  refine Eq.trans (pl_ok (by exists "rn") (by exists "lap")) ?_
  rfl
theorem both_laps : lapsesF (B19 v) 1 = [] := by
  unfold lapsesF
  rw [both_in v1 (by decide)] <;> rfl
theorem both_fates : fatesF (B19 v) 1 = [(0, v, 0)] := by
  unfold fatesF
  rw [both_in v1 (by decide)]
  show [((0 : Int), v - 0, (0 : Int))] = _
  rw [Int.sub_zero]
include v2
theorem both_fine : Fine (B19 v) 1 := by
  refine ⟨⟨fun e he => ?_, fun p hp => ?_, Nat.le_of_ble_eq_true rfl⟩, by decide, by decide, by rw [both_in v1 (by decide)]⟩
  · simp only [List.mem_cons, List.not_mem_nil, or_false] at he
    unfold PosE
    rcases he with rfl | rfl <;> (dsimp only; omega)
  · simp only [List.drop_succ_cons, List.drop_zero, List.zip_cons_cons, List.zip_nil_right, List.mem_cons, List.not_mem_nil, or_false] at hp
    subst hp
    dsimp only
    omega
theorem sp_ok : OkLog [((false, 0, v) : Ev)] := ⟨fun e he => by rw [List.mem_singleton.mp he]; exact ⟨Int.le_refl _, (by decide : (0 : Int) ≤ 10000), v1, v2⟩, fun p hp => (List.not_mem_nil hp).elim, Nat.le_of_ble_eq_true rfl⟩
theorem es_ok : OkLog [((true, 0, v) : Ev), (false, 1, v)] := by
  refine ⟨fun e he => ?_, fun p hp => ?_, Nat.le_of_ble_eq_true rfl⟩
  · simp only [List.mem_cons, List.not_mem_nil, or_false] at he
    unfold PosE
    rcases he with rfl | rfl <;> (dsimp only; omega)
  · simp only [List.drop_succ_cons, List.drop_zero, List.zip_cons_cons, List.zip_nil_right, List.mem_cons, List.not_mem_nil, or_false] at hp
    subst hp
    dsimp only
    omega
omit v2
theorem sp_ref : (playF 1000 10000 [((false, 0, v) : Ev)]).2.2.2 = some 0 := congrArg (fun p : Pl => p.2.2.2) (pl_ref (by exists "rn"))
theorem es_ref : (playF 1 10000 [((true, 0, v) : Ev), (false, 1, v)]).2.2.2 = some 1 := congrArg (fun p : Pl => p.2.2.2) (pl_ref (by exists "rn"))
end
abbrev Q19 : List Ev := (List.range 15).map fun k : Nat => (true, (k : Int), 1000000)
abbrev S19 : List Ev := (List.range 15).map fun k : Nat => (false, 15 + (k : Int), 1000000)
theorem ok_Q19 : OkLog Q19 := ⟨by unfold PosE; decide +kernel, by unfold OrdEv; decide +kernel, by decide +kernel⟩
theorem ok_QS19 : OkLog (Q19 ++ S19) := ⟨by unfold PosE; decide +kernel, by unfold OrdEv; decide +kernel, by decide +kernel⟩
theorem no_Q19 : (playF 1 10000 Q19).2.2.2 = none := by decide +kernel
theorem no_QS19 : (playF 16 10000 (Q19 ++ S19)).2.2.2 = none := by decide +kernel
theorem ref_QS19 : (playF 15 10000 (Q19 ++ S19)).2.2.2 = some 29 := by decide +kernel
theorem no_QSL : (playF 1000 10000 (Q19 ++ S19)).2.2.2 = none := by decide +kernel
theorem bal_QS19 : total (playF 1000 14 (Q19 ++ S19)).1 = 15000000 := by decide +kernel
theorem laps_Q19 : lapsesF Q19 1 = (List.range 15).map fun k : Nat => (1 + (k : Int), 1000000) := by decide +kernel
abbrev A19 : List Ev := [(true, 5, 1), (true, 5, 2), (true, 5, 3)]
theorem ok_A19 : OkLog A19 := ⟨by unfold PosE; decide +kernel, by unfold OrdEv; decide +kernel, by decide +kernel⟩
theorem ok_B19 : OkLog (A19 ++ [(false, 369, 6)]) := ⟨by unfold PosE; decide +kernel, by unfold OrdEv; decide +kernel, by decide +kernel⟩
theorem a19_5 : total (playF 365 5 A19).1 = 6 := by decide +kernel
theorem a19_369 : total (playF 365 369 A19).1 = 6 := by decide +kernel
theorem b19_369 : total (playF 365 369 (A19 ++ [(false, 369, 6)])).1 = 0 := by decide +kernel
theorem b19_370 : total (playF 365 370 (A19 ++ [(false, 369, 6)])).1 = 0 := by decide +kernel
theorem full19 {m : Int} (h : FullL 1 0 1 1 1000000000000000 m) : m = 1000000000000000 := h.uniq ⟨by decide, fun s a b => by unfold excF; omega, .inr ⟨1000000000000000, by decide, by decide, by decide⟩⟩
theorem first19 {m : Int} (h : ∃ s, (1000 : Int) ≤ s ∧ s < 1000 + 1000 ∧ m = timeF 1000000 0 1000 1000 s) (h2 : ∀ s, (1000 : Int) ≤ s → s < 1000 + 1000 → m ≤ timeF 1000000 0 1000 1000 s) : m = 1000 := by
  obtain ⟨s, a, b, e⟩ := h
  have z := h2 1000 (by decide) (by decide)
  rw [show timeF 1000000 0 1000 1000 1000 = 1000 by decide] at z
  have t0 := turns_nn 1000000 0 1000 1000 s
  unfold timeF at e
  omega
abbrev accF (L : Int) (log : List Ev) (now : Int) (pq : Addr) : List (Str × D) := [("span", .int L), ("log", .tup (log.map eEv)), ("now", .int now), ("past", .obj pq)]
abbrev eSt (log : List Ev) (now : Int) : D := .tup [.tup (log.map eEv), .int now]
/-- what is asked of the class -/
structure AccC (K : PySem.W.Frag) (C : Addr) : Prop where
  cls : Cls K C
  f1 : NoAttr K C "span"
  f2 : NoAttr K C "log"
  f3 : NoAttr K C "now"
  f4 : NoAttr K C "past"
  most : ∃ u, Con K C "MOST" (.int 30) u
def spAccInit (C : Addr) : DSp := fun ds O Φ _ => ∃ (q dx : Addr) (L : Int), ds = [.obj q, .int L] ∧ O = [(q, .ins C dx [])] ∧ 1 ≤ L ∧ L ≤ 1000 ∧ ∀ pq, Φ .non [(pq, .lst []), (q, .ins C dx (accF L [] 0 pq))]
theorem sc_accinit : FnScope ["self", "life"] ["self", "life"] (defScope (clsAt (topS 49) 1)) := ⟨rfl, rfl, rfl, by decide +kernel, rfl, by decide +kernel, by decide +kernel⟩
theorem ok_accinit {M : Mach} {f Cc : Addr} {fd : FuncData} {k : Nat} (F : Fun M.K "__init__" "Account.__init__" (clsAt (topS 49) 1) f fd) (a : AccC M.K Cc) (g : GFn M "need_life" k spNeedLife) :
    FnOk M.P M.w M.K M.mg M.base (L2N.CX M.P M.w) (k + 1) f fd ["self", "life"] (liftSp M.K (spAccInit Cc)) := by
  refine fn_body (N := ["self", "life"]) (vn := ["self", "life"]) (gl := ["need_life"]) F sc_accinit (by decide +kernel) (fun ds O Φ Ψ h => ?_) fun X B ds O Φ Ψ bd h => ?_
  · obtain ⟨_, _, _, rfl, _⟩ := h
    rfl
  obtain ⟨q, dx, L, rfl, rfl, l1, l2, z⟩ := h
  have C := bd.C
  change WSs _ _ [some _, some _] _ _ _
  refine wss_cons (ws_expr (we_pv (pv_call C g bd.r (by decide +kernel) (by exists "ea") fun Φ Ψ z => ⟨L, rfl, l1, l2, z⟩) ?_))
  exists "nx"
  refine wss_cons (ws_fld C a.cls a.f1 (we_pv (by exists "ev") ⟨q, dx, _, [(q, .ins Cc dx [("span", .int L)])], (by exists "ev"), (by exists "mem"), Nat.le_of_ble_eq_true rfl, .z, ?_⟩))
  exists "nx"
  refine wss_cons (ws_fld C a.cls a.f2 (we_pv (by exists "ev") ⟨q, dx, _, [(q, .ins Cc dx [("span", .int L), ("log", .tup [])])], (by exists "ev"), (by exists "mem"), Nat.le_of_ble_eq_true rfl, .z, ?_⟩))
  exists "nx"
  refine wss_cons (ws_fld C a.cls a.f3 (we_pv (by exists "ev") ⟨q, dx, _, [(q, .ins Cc dx [("span", .int L), ("log", .tup []), ("now", .int 0)])], (by exists "ev"), (by exists "mem"), Nat.le_of_ble_eq_true rfl, .z, ?_⟩))
  exists "nx"
  refine wss_one (ws_fld C a.cls a.f4 (we_own (wn_lst (wa_nil ⟨Nat.zero_le _, fun pq => ⟨q, dx, _, [(pq, .lst []), (q, .ins Cc dx (accF L [] 0 pq))], (by exists "ev"), (by exists "mem"), Nat.le_of_ble_eq_true rfl, .s .z, ?_⟩⟩))))
  exact z pq
def spYearly (C : Addr) : DSp := fun ds O Φ _ => ds = [.obj C] ∧ O = [] ∧ ∀ q dx pq, Φ (.obj q) [(pq, .lst []), (q, .ins C dx (accF 365 [] 0 pq))]
theorem sc_yearly : FnScope ["cls"] ["cls"] (defScope (clsAt (topS 49) 2)) := ⟨rfl, rfl, rfl, by decide +kernel, rfl, by decide +kernel, by decide +kernel⟩
theorem ok_yearly {M : Mach} {f Cc : Addr} {fd : FuncData} {k : Nat} (F : Fun M.K "yearly" "Account.yearly" (clsAt (topS 49) 2) f fd) (g : GMk M Cc k (spAccInit Cc)) :
    FnOk M.P M.w M.K M.mg M.base (L2N.CX M.P M.w) (k + 2) f fd ["cls"] (liftSp M.K (spYearly Cc)) := by
  refine fn_body (N := ["cls"]) (vn := ["cls"]) (gl := []) F sc_yearly (by decide +kernel) (fun ds O Φ Ψ h => ?_) fun X B ds O Φ Ψ bd h => ?_
  · obtain ⟨rfl, _⟩ := h
    rfl
  obtain ⟨rfl, rfl, z⟩ := h
  have C := bd.C
  change WSs _ _ [some _] _ _ _
  exact wss_one (ws_ret (we_makeV C (by exists "va") (by decide +kernel) g bd.r takes_no (wa_pv (by exists "ea") fun q dx => ⟨[(q, .ins Cc dx [])], [], List.Perm.refl _, q, dx, 365, rfl, rfl, by decide, by decide, fun pq => ⟨rfl, z q dx pq⟩⟩)))
def spAccLen (C : Addr) : DSp := fun ds O Φ _ => ∃ (q dx pq : Addr) (L : Int) (log : List Ev) (now : Int), ds = [.obj q] ∧ (q, OV.ins C dx (accF L log now pq)) ∈ O ∧ log.length < 1000000 ∧ Φ (.int log.length) O
theorem sc_acclen : FnScope ["self"] ["self"] (defScope (clsAt (topS 49) 3)) := ⟨rfl, rfl, rfl, by decide +kernel, rfl, by decide +kernel, by decide +kernel⟩
theorem ok_acclen {M : Mach} {f Cc : Addr} {fd : FuncData} {k : Nat} (F : Fun M.K "__len__" "Account.__len__" (clsAt (topS 49) 3) f fd) (a : AccC M.K Cc) (h1 : M.mg "len" = none) :
    FnOk M.P M.w M.K M.mg M.base (L2N.CX M.P M.w) (k + 1) f fd ["self"] (liftSp M.K (spAccLen Cc)) := by
  refine fn_body (N := ["self"]) (vn := ["self"]) (gl := ["len"]) F sc_acclen (by decide +kernel) (fun ds O Φ Ψ h => ?_) fun X B ds O Φ Ψ bd h => ?_
  · obtain ⟨_, _, _, _, _, _, rfl, _⟩ := h
    rfl
  obtain ⟨q, dx, pq, L, log, now, rfl, hm, _, z⟩ := h
  have C := bd.C
  change WSs _ _ [some _] _ _ _
  exact wss_one (ws_ret (we_pv (PEv.to (pv_len C (pv_fld C (by exists "ev") hm a.cls a.f2 (d := .tup (log.map eEv)) rfl) .tup h1 (by decide +kernel)) (by rw [List.length_map])) z))
def spChange (C : Addr) : DSp := fun ds O Φ _ => ∃ (q dx pq : Addr) (L : Int) (log : List Ev) (now : Int) (ps : List D) (t : Int) (ev : List Ev), ds = [.obj q, .int t, .tup (ev.map eEv)] ∧ O = [(q, .ins C dx (accF L log now pq)), (pq, .lst ps)] ∧ ps.length < 1000 ∧ log.length ≤ 100 ∧ ev.length ≤ 100 ∧
  Φ .non [(q, .ins C dx (accF L (log ++ ev) t pq)), (pq, .lst (ps ++ [eSt log now]))]
theorem sc_change : FnScope ["self", "time", "events"] ["self", "time", "events"] (defScope (clsAt (topS 49) 5)) := ⟨rfl, rfl, rfl, by decide +kernel, rfl, by decide +kernel, by decide +kernel⟩
theorem ok_change {M : Mach} {f Cc : Addr} {fd : FuncData} {k : Nat} (F : Fun M.K "change" "Account.change" (clsAt (topS 49) 5) f fd) (a : AccC M.K Cc) :
    FnOk M.P M.w M.K M.mg M.base (L2N.CX M.P M.w) (k + 1) f fd ["self", "time", "events"] (liftSp M.K (spChange Cc)) := by
  refine fn_body (N := ["self", "time", "events"]) (vn := ["self", "time", "events"]) (gl := []) F sc_change (by decide +kernel) (fun ds O Φ Ψ h => ?_) fun X B ds O Φ Ψ bd h => ?_
  · obtain ⟨_, _, _, _, _, _, _, _, _, rfl, _⟩ := h
    rfl
  obtain ⟨q, dx, pq, L, log, now, ps, t, ev, rfl, rfl, hp, hl, he, z⟩ := h
  have C := bd.C
  change WSs _ _ [some _, some _, some _] _ _ _
  refine wss_cons (ws_expr (we_append (q := pq) (ys := ps) (pv_fld C (by exists "ev") (by exists "mem") a.cls a.f4 (d := .obj pq) rfl) (by exists "mem") (we_pv (pv_tup (pa_consv (pv_fld C (by exists "ev") (by exists "mem") a.cls a.f2 (d := .tup (log.map eEv)) rfl) (pa_consv (pv_fld C (by exists "ev") (by exists "mem") a.cls a.f3 (d := .int now) rfl) pa_nilv (star_cons rfl)) (star_cons rfl))) ⟨ps, [(q, .ins Cc dx (accF L log now pq)), (pq, .lst (ps ++ [eSt log now]))], (by exists "mem"), by omega, .s .z, ?_⟩)))
  exists "nx"
  refine wss_cons (ws_fld C a.cls a.f2 (we_pv (d := .tup ((log ++ ev).map eEv)) (PEv.to (pv_catT (pv_fld C (by exists "ev") (by exists "mem") a.cls a.f2 (d := .tup (log.map eEv)) rfl) (by exists "ev") (by rw [List.length_map, List.length_map]; omega)) (by rw [List.map_append])) ⟨q, dx, accF L log now pq, [(q, .ins Cc dx (accF L (log ++ ev) now pq)), (pq, .lst (ps ++ [eSt log now]))], (by exists "ev"), (by exists "mem"), Nat.le_of_ble_eq_true rfl, .z, ?_⟩))
  exists "nx"
  refine wss_one (ws_fld C a.cls a.f3 (we_pv (by exists "ev") ⟨q, dx, accF L (log ++ ev) now pq, [(q, .ins Cc dx (accF L (log ++ ev) t pq)), (pq, .lst (ps ++ [eSt log now]))], (by exists "ev"), (by exists "mem"), Nat.le_of_ble_eq_true rfl, .z, ?_⟩))
  exact z
def spNeedTimeA (C : Addr) : DSp := fun ds O Φ _ => ∃ (q dx pq : Addr) (L : Int) (log : List Ev) (now t : Int), ds = [.obj q, .int t] ∧ (q, OV.ins C dx (accF L log now pq)) ∈ O ∧ now ≤ t ∧ t ≤ 10000 ∧ Φ .non O
theorem sc_needtimea : FnScope ["self", "time"] ["self", "time"] (defScope (clsAt (topS 49) 6)) := ⟨rfl, rfl, rfl, by decide +kernel, rfl, by decide +kernel, by decide +kernel⟩
theorem ok_needtimea {M : Mach} {f Cc : Addr} {fd : FuncData} {k : Nat} (F : Fun M.K "need_time" "Account.need_time" (clsAt (topS 49) 6) f fd) (a : AccC M.K Cc) (g : GFn M "is_from" k spIsFrom) (h1 : ∃ t, M.mg "LAST_TIME" = some (.int 10000 t)) :
    FnOk M.P M.w M.K M.mg M.base (L2N.CX M.P M.w) (k + 1) f fd ["self", "time"] (liftSp M.K (spNeedTimeA Cc)) := by
  refine fn_body (N := ["self", "time"]) (vn := ["self", "time"]) (gl := ["is_from", "LAST_TIME", "InvalidTime"]) F sc_needtimea (by decide +kernel) (fun ds O Φ Ψ h => ?_) fun X B ds O Φ Ψ bd h => ?_
  · obtain ⟨_, _, _, _, _, _, _, rfl, _⟩ := h
    rfl
  obtain ⟨q, dx, pq, L, log, now, t, rfl, hm, t1, t2, z⟩ := h
  have C := bd.C
  change WSs _ _ [some _, some _] _ _ _
  refine wss_one (ws_ifv (c := false) (PTv.to (pt_notv (ca := true) (pt_ofv (PEv.to (pv_call C g bd.r (by decide +kernel) (pa_consv (by exists "ev") (pa_consv (pv_fld C (by exists "ev") hm a.cls a.f3 (d := .int now) rfl) (pa_consv (by exists "ev") pa_nilv (star_cons rfl)) (star_cons rfl)) (star_cons rfl)) fun Φ Ψ z => ⟨.int t, _, now, 10000, rfl, .int _, z⟩) (congrArg D.bl ?_)))) rfl) (fun h => by cases h) fun _ => wss_nil z)
  show (decide (now ≤ t) && decide (t ≤ 10000)) = true
  rw [decide_eq_true t1, decide_eq_true t2] <;> rfl
abbrev earnL (t : Int) (xs : List Int) : List Ev := xs.map fun x => (true, t, x)
def spEarnA (C : Addr) : DSp := fun ds O Φ _ => ∃ (q dx pq : Addr) (L : Int) (log : List Ev) (now : Int) (ps : List D) (t : Int) (xs : List Int), ds = [.obj q, .int t, .tup (xs.map D.int)] ∧ O = [(q, .ins C dx (accF L log now pq)), (pq, .lst ps)] ∧ ps.length < 1000 ∧ now ≤ t ∧ t ≤ 10000 ∧ (∀ x ∈ xs, 1 ≤ x ∧ x ≤ 1000000) ∧ log.length + xs.length ≤ 30 ∧ OkLog (log ++ earnL t xs) ∧
  Φ (.int (total (playF L t (log ++ earnL t xs)).1)) [(q, .ins C dx (accF L (log ++ earnL t xs) t pq)), (pq, .lst (ps ++ [eSt log now]))]
abbrev nEarnA : List Str := ["self", "time", "amounts", "amount"]
theorem sc_earna : FnScope nEarnA ["self", "time", "amounts"] (defScope (clsAt (topS 49) 7)) := ⟨rfl, rfl, rfl, by decide +kernel, rfl, by decide +kernel, by decide +kernel⟩
theorem st_earna {M : Mach} {f Cc : Addr} {fd : FuncData} {k : Nat} (F : Fun M.K "earn" "Account.earn" (clsAt (topS 49) 7) f fd) (hb : bindS fd 2 ["self", "time"] [] "amounts") (a : AccC M.K Cc) (gt : GMt M Cc "need_time" k (spNeedTimeA Cc)) (gc : GMt M Cc "change" k (spChange Cc)) (gi : GFn M "is_from" k spIsFrom) (gb : GFn M "balance_of" k spThere) (h1 : M.mg "len" = none) (h2 : M.mg "tuple" = none) (h3 : ∃ t, M.mg "LARGEST" = some (.int 1000000 t)) :
    StOk M (k + 1) f 2 [] (spEarnA Cc) := by
  refine star_body (N := nEarnA) (vn := nEarnA) (ps := ["self", "time"]) (gl := ["is_from", "LARGEST", "InvalidAmount", "len", "TooMany", "tuple", "balance_of"]) F sc_earna rfl (by decide +kernel) hb fun X B ds O Φ Ψ bd h => ?_
  obtain ⟨q, dx, pq, L, log, now, ps, t, xs, rfl, rfl, hp, t1, t2, hx, hl, ok, z⟩ := h
  have C := bd.C
  obtain ⟨u, most⟩ := a.most
  change WSs _ _ [some _, some _, some _, none] _ _ _
  refine wss_cons (ws_expr (we_meth C a.cls gt bd.r takes_no (we_pv (by exists "ev") ⟨q, dx, _, rfl, (by exists "mem"), rfl, wa_pv (by exists "ea") ⟨_, [], by rw [List.append_nil], q, dx, pq, L, log, now, t, rfl, (by exists "mem"), t1, t2, ?_⟩⟩)))
  exists "nx"
  refine wss_cons (ws_for C (wi_v (wiv_tup (ds := xs.map D.int) (by exists "ev")) ⟨fun i G' O' => ∃ g1 : Option D, G' = [some (.obj q), some (.int t), some (.tup (xs.map D.int)), g1] ∧ O' = [(q, .ins Cc dx (accF L log now pq)), (pq, .lst ps)], ⟨_, rfl, rfl⟩, fun _ _ _ _ _ p hp => (List.not_mem_nil hp).elim, ?_, ?_⟩))
  · rintro i d G' O' hd ⟨g1', rfl, rfl⟩
    obtain ⟨x, hx', rfl, hdr⟩ := map_at hd
    obtain ⟨x1, x2⟩ := hx x (List.mem_of_getElem? hx')
    exists "t1"
    refine wss_one (ws_ifv (c := false) (PTv.to (pt_notv (ca := true) (pt_ofv (PEv.to (pv_call C gi bd.r (by decide +kernel) (by exists "ea") fun Φ Ψ z => ⟨_, _, _, _, rfl, .int _, z⟩) (congrArg D.bl ?_)))) rfl) (fun h => by cases h) fun _ => wss_nil ⟨_, rfl, rfl⟩)
    show (decide (1 ≤ x) && decide (x ≤ 1000000)) = true
    rw [decide_eq_true x1, decide_eq_true x2] <;> rfl
  rintro G' O' ⟨g1', rfl, rfl⟩
  exists "nx"
  refine wss_cons (ws_ifv (c := false) (PTv.to (pt_gt (pv_add (pv_len C (pv_fld C (by exists "ev") (by exists "mem") a.cls a.f2 (d := .tup (log.map eEv)) rfl) .tup h1 (by decide +kernel)) (pv_len C (by exists "ev") .tup h1 (by decide +kernel))) (pv_con C (by exists "ev") (by exists "mem") a.cls most rfl)) (decide_eq_false (by rw [List.length_map, List.length_map]; omega))) (fun h => by cases h) fun _ => wss_nil ?_)
  exists "nx"
  refine wss_cons (ws_expr (we_meth C a.cls gc bd.r takes_no (we_pv (by exists "ev") ⟨q, dx, _, rfl, (by exists "mem"), rfl, wa_pv (pa_consv (by exists "ev") (pa_consv (PEv.to (pv_tuple C (pv_frz (pn_lcA (own := [("amount", 3)]) (xs := xs) (enc := D.int) (f := fun x => eEv (true, t, x)) C (by decide +kernel) (wiv_tup (by exists "ev")) (fun p hp => (List.not_mem_nil hp).elim) (by omega) fun x hx => ⟨fun X' B' b => ?_⟩)) .lst h2 (by decide +kernel)) (congrArg D.tup (show xs.map (fun x => eEv (true, t, x)) = (earnL t xs).map eEv by rw [List.map_map] <;> rfl))) pa_nilv (star_cons rfl)) (star_cons rfl)) ⟨_, [], by rw [List.append_nil], q, dx, pq, L, log, now, ps, t, earnL t xs, rfl, rfl, hp, by omega, by rw [List.length_map]; omega, ?_⟩⟩)))
  · have C' := b.C
    exists "wp"
    refine wg_name C' (by exists "sa") (by decide +kernel) (by decide) ⟨rfl, fun X2 b2 => wf_nil ⟨rfl, rfl⟩, fun _ X3 b3 => ?_⟩
    have C3 := b3.C
    exact PEv.to (d := .tup [.str "earn", .int t, .int x]) (by exists "ev") rfl
  exists "nx"
  exact wss_one (ws_ret (we_pv (pv_call C gb bd.r (by decide +kernel) (pa_consv (pv_fld C (by exists "ev") (by exists "mem") a.cls a.f2 (d := .tup ((log ++ earnL t xs).map eEv)) rfl) (pa_consv (pv_fld C (by exists "ev") (by exists "mem") a.cls a.f1 (d := .int L) rfl) (pa_consv (by exists "ev") pa_nilv (star_cons rfl)) (star_cons rfl)) (star_cons rfl)) fun Φ Ψ z => ⟨log ++ earnL t xs, L, t, rfl, ok, z⟩) z))
def spSpendA (C : Addr) : DSp := fun ds O Φ _ => ∃ (q dx pq : Addr) (L : Int) (log : List Ev) (now : Int) (ps : List D) (t x : Int), ds = [.obj q, .int t, .int x] ∧ O = [(q, .ins C dx (accF L log now pq)), (pq, .lst ps)] ∧ ps.length < 1000 ∧ now ≤ t ∧ t ≤ 10000 ∧ 1 ≤ x ∧ x ≤ 1000000 ∧ log.length < 30 ∧ OkLog log ∧ x ≤ total (playF L t log).1 ∧ OkLog (log ++ [(false, t, x)]) ∧
  Φ (.int (total (playF L t (log ++ [(false, t, x)])).1)) [(q, .ins C dx (accF L (log ++ [(false, t, x)]) t pq)), (pq, .lst (ps ++ [eSt log now]))]
theorem sc_spenda : FnScope ["self", "time", "amount"] ["self", "time", "amount"] (defScope (clsAt (topS 49) 8)) := ⟨rfl, rfl, rfl, by decide +kernel, rfl, by decide +kernel, by decide +kernel⟩
theorem ok_spenda {M : Mach} {f Cc : Addr} {fd : FuncData} {k : Nat} (F : Fun M.K "spend" "Account.spend" (clsAt (topS 49) 8) f fd) (a : AccC M.K Cc) (gt : GMt M Cc "need_time" k (spNeedTimeA Cc)) (gc : GMt M Cc "change" k (spChange Cc)) (gi : GFn M "is_from" k spIsFrom) (gb : GFn M "balance_of" k spThere) (h1 : M.mg "len" = none) (h3 : ∃ t, M.mg "LARGEST" = some (.int 1000000 t)) :
    FnOk M.P M.w M.K M.mg M.base (L2N.CX M.P M.w) (k + 1) f fd ["self", "time", "amount"] (liftSp M.K (spSpendA Cc)) := by
  refine fn_body (N := ["self", "time", "amount"]) (vn := ["self", "time", "amount"]) (gl := ["is_from", "LARGEST", "InvalidAmount", "len", "TooMany", "balance_of", "NotEnough"]) F sc_spenda (by decide +kernel) (fun ds O Φ Ψ h => ?_) fun X B ds O Φ Ψ bd h => ?_
  · obtain ⟨_, _, _, _, _, _, _, _, _, rfl, _⟩ := h
    rfl
  obtain ⟨q, dx, pq, L, log, now, ps, t, x, rfl, rfl, hp, t1, t2, x1, x2, hl, ok, hc, ok2, z⟩ := h
  have C := bd.C
  obtain ⟨u, most⟩ := a.most
  change WSs _ _ [some _, some _, some _] _ _ _
  refine wss_cons (ws_expr (we_meth C a.cls gt bd.r takes_no (we_pv (by exists "ev") ⟨q, dx, _, rfl, (by exists "mem"), rfl, wa_pv (by exists "ea") ⟨_, [], by rw [List.append_nil], q, dx, pq, L, log, now, t, rfl, (by exists "mem"), t1, t2, ?_⟩⟩)))
  exists "nx"
  refine wss_cons (ws_ifv (c := false) (PTv.to (pt_notv (ca := true) (pt_ofv (PEv.to (pv_call C gi bd.r (by decide +kernel) (by exists "ea") fun Φ Ψ z => ⟨_, _, _, _, rfl, .int _, z⟩) (congrArg D.bl ?_)))) rfl) (fun h => by cases h) fun _ => wss_nil ?_)
  · show (decide (1 ≤ x) && decide (x ≤ 1000000)) = true
    rw [decide_eq_true x1, decide_eq_true x2] <;> rfl
  exists "nx"
  refine wss_cons (ws_ifv (c := false) (PTv.to (pt_eq (pv_len C (pv_fld C (by exists "ev") (by exists "mem") a.cls a.f2 (d := .tup (log.map eEv)) rfl) .tup h1 (by decide +kernel)) (pv_con C (by exists "ev") (by exists "mem") a.cls most rfl) rfl) ?_) (fun h => by cases h) fun _ => wss_nil ?_)
  · show decide (((log.map eEv).length : Int) = 30) = false
    rw [List.length_map]
    exact decide_eq_false (by omega)
  exists "nx"
  refine wss_cons (ws_ifv (c := false) (PTv.to (pt_lt (pv_call C gb bd.r (by decide +kernel) (pa_consv (pv_fld C (by exists "ev") (by exists "mem") a.cls a.f2 (d := .tup (log.map eEv)) rfl) (pa_consv (pv_fld C (by exists "ev") (by exists "mem") a.cls a.f1 (d := .int L) rfl) (pa_consv (by exists "ev") pa_nilv (star_cons rfl)) (star_cons rfl)) (star_cons rfl)) fun Φ Ψ z => ⟨log, L, t, rfl, ok, z⟩) (by exists "ev")) (decide_eq_false (by omega))) (fun h => by cases h) fun _ => wss_nil ?_)
  exists "nx"
  refine wss_cons (ws_expr (we_meth C a.cls gc bd.r takes_no (we_pv (by exists "ev") ⟨q, dx, _, rfl, (by exists "mem"), rfl, wa_pv (pa_consv (by exists "ev") (pa_consv (PEv.to (d := .tup [.tup [.str "spend", .int t, .int x]]) (d' := .tup ([(false, t, x)].map eEv)) (by exists "ev") rfl) pa_nilv (star_cons rfl)) (star_cons rfl)) ⟨_, [], by rw [List.append_nil], q, dx, pq, L, log, now, ps, t, [(false, t, x)], rfl, rfl, hp, by omega, Nat.le_of_ble_eq_true rfl, ?_⟩⟩)))
  exists "nx"
  exact wss_one (ws_ret (we_pv (pv_call C gb bd.r (by decide +kernel) (pa_consv (pv_fld C (by exists "ev") (by exists "mem") a.cls a.f2 (d := .tup ((log ++ [(false, t, x)]).map eEv)) rfl) (pa_consv (pv_fld C (by exists "ev") (by exists "mem") a.cls a.f1 (d := .int L) rfl) (pa_consv (by exists "ev") pa_nilv (star_cons rfl)) (star_cons rfl)) (star_cons rfl)) fun Φ Ψ z => ⟨log ++ [(false, t, x)], L, t, rfl, ok2, z⟩) z))
def spWaitA (C : Addr) : DSp := fun ds O Φ _ => ∃ (q dx pq : Addr) (L : Int) (log : List Ev) (now : Int) (ps : List D) (t : Int), ds = [.obj q, .int t] ∧ O = [(q, .ins C dx (accF L log now pq)), (pq, .lst ps)] ∧ ps.length < 1000 ∧ now ≤ t ∧ t ≤ 10000 ∧ OkLog log ∧
  Φ (.int (total (playF L t log).1)) [(q, .ins C dx (accF L log t pq)), (pq, .lst (ps ++ [eSt log now]))]
theorem sc_waita : FnScope ["self", "time"] ["self", "time"] (defScope (clsAt (topS 49) 9)) := ⟨rfl, rfl, rfl, by decide +kernel, rfl, by decide +kernel, by decide +kernel⟩
theorem ok_waita {M : Mach} {f Cc : Addr} {fd : FuncData} {k : Nat} (F : Fun M.K "wait" "Account.wait" (clsAt (topS 49) 9) f fd) (a : AccC M.K Cc) (gt : GMt M Cc "need_time" k (spNeedTimeA Cc)) (gc : GMt M Cc "change" k (spChange Cc)) (gb : GFn M "balance_of" k spThere) :
    FnOk M.P M.w M.K M.mg M.base (L2N.CX M.P M.w) (k + 1) f fd ["self", "time"] (liftSp M.K (spWaitA Cc)) := by
  refine fn_body (N := ["self", "time"]) (vn := ["self", "time"]) (gl := ["balance_of"]) F sc_waita (by decide +kernel) (fun ds O Φ Ψ h => ?_) fun X B ds O Φ Ψ bd h => ?_
  · obtain ⟨_, _, _, _, _, _, _, _, rfl, _⟩ := h
    rfl
  obtain ⟨q, dx, pq, L, log, now, ps, t, rfl, rfl, hp, t1, t2, ok, z⟩ := h
  have C := bd.C
  have hl := ok.len
  change WSs _ _ [some _, some _] _ _ _
  refine wss_cons (ws_expr (we_meth C a.cls gt bd.r takes_no (we_pv (by exists "ev") ⟨q, dx, _, rfl, (by exists "mem"), rfl, wa_pv (by exists "ea") ⟨_, [], by rw [List.append_nil], q, dx, pq, L, log, now, t, rfl, (by exists "mem"), t1, t2, ?_⟩⟩)))
  exists "nx"
  refine wss_cons (ws_expr (we_meth C a.cls gc bd.r takes_no (we_pv (by exists "ev") ⟨q, dx, _, rfl, (by exists "mem"), rfl, wa_pv (pa_consv (by exists "ev") (pa_consv (PEv.to (d := .tup []) (d' := .tup (([] : List Ev).map eEv)) (by exists "ev") rfl) pa_nilv (star_cons rfl)) (star_cons rfl)) ⟨_, [], by rw [List.append_nil], q, dx, pq, L, log, now, ps, t, [], rfl, rfl, hp, by omega, Nat.le_of_ble_eq_true rfl, ?_⟩⟩)))
  exists "nx"
  rw [List.append_nil]
  exact wss_one (ws_ret (we_pv (pv_call C gb bd.r (by decide +kernel) (pa_consv (pv_fld C (by exists "ev") (by exists "mem") a.cls a.f2 (d := .tup (log.map eEv)) rfl) (pa_consv (pv_fld C (by exists "ev") (by exists "mem") a.cls a.f1 (d := .int L) rfl) (pa_consv (by exists "ev") pa_nilv (star_cons rfl)) (star_cons rfl)) (star_cons rfl)) fun Φ Ψ z => ⟨log, L, t, rfl, ok, z⟩) z))
def remF (L t : Int) (log : List Ev) : List (Int × Int) := mergeF ((playF L t log).1.map fun l : Lot => (l.1 + L, l.2.1))
def spRemain (C : Addr) : GSpO := fun ds O od => ∃ (q dx pq : Addr) (L : Int) (log : List Ev) (now : Int), ds = [.obj q] ∧ (q, OV.ins C dx (accF L log now pq)) ∈ O ∧ PosEv log ∧ log.length ≤ 100 ∧ od = (remF L now log).map ePr
abbrev nRemain : List Str := ["self", "lot"]
theorem sc_remain : GScope nRemain ["self"] (defScope (clsAt (topS 49) 16)) := ⟨rfl, rfl, rfl, by decide +kernel, rfl, by decide +kernel, by decide +kernel⟩
theorem gok_remain {M : Mach} {f Cc : Addr} {fd : FuncData} {k : Nat} (F : Fun M.K "remaining" "Account.remaining" (clsAt (topS 49) 16) f fd) (a : AccC M.K Cc) (gp : GFn M "play" k spPlay) (gm : GFn M "merged" k spMerged) :
    Gz.GOk M.P M.w M.K M.mg M.base (k + 1) f fd ["self"] (liftGO M.K (spRemain Cc)) := by
  refine gen_body0 (N := nRemain) (vn := nRemain) (gl := ["play", "merged"]) F sc_remain rfl rfl (by decide) (by intro _ _; rfl) (by decide +kernel) (fun ds O od h => ?_) fun X B ds od O C hr h => ?_
  · obtain ⟨_, _, _, _, _, _, rfl, _⟩ := h
    rfl
  obtain ⟨q, dx, pq, L, log, now, rfl, hm, pe, hl, rfl⟩ := h
  have hp := playF_len L now log
  change PEv _ _ [some _, none] _ _ _
  refine pv_call' C gm hr (by decide +kernel) (pa_consv (PEv.to (pv_frz (pn_lcA (own := [("lot", 1)]) (xs := (playF L now log).1) (enc := eLot) (f := fun l : Lot => ePr (l.1 + L, l.2.1)) C (by decide +kernel) (wiv_lst (pv_ix (pv_call' C gp hr (by decide +kernel) (pa_consv (pv_fld C (by exists "ev") hm a.cls a.f2 (d := .tup (log.map eEv)) rfl) (pa_consv (pv_fld C (by exists "ev") hm a.cls a.f1 (d := .int L) rfl) (pa_consv (pv_fld C (by exists "ev") hm a.cls a.f3 (d := .int now) rfl) pa_nilv (star_cons rfl)) (star_cons rfl)) (star_cons rfl)) fun Φ Ψ z => ⟨log, L, now, rfl, rfl, pe, hl, z⟩) pv_int .tup at0)) (fun p hp => (List.not_mem_nil hp).elim) (by omega) fun l hl => ⟨fun X' B' b => ?_⟩)) (congrArg D.lst (show _ = ((playF L now log).1.map fun l : Lot => (l.1 + L, l.2.1)).map ePr by rw [List.map_map] <;> rfl))) pa_nilv (star_cons rfl)) fun Φ Ψ z => ⟨_, rfl, rfl, by rw [List.length_map]; omega, z⟩
  have C' := b.C
  exists "wp"
  refine wg_name C' (by exists "sa") (by decide +kernel) (by decide) ⟨rfl, fun X2 b2 => wf_nil ⟨rfl, rfl⟩, fun _ X3 b3 => ?_⟩
  have C3 := b3.C
  exact pv_tup (pa_consv (pv_add (by exists "ev") (pv_fld C3 (by exists "ev") hm a.cls a.f1 (d := .int L) rfl)) (pa_consv (by exists "ev") pa_nilv (star_cons rfl)) (star_cons rfl))
abbrev tb5 (R S T U W : Addr) : Own := [(R, .tab qBest), (S, .tab qFit), (T, .tab qRange), (U, .tab qAmount), (W, .tab qEarning)]
theorem p5a {a b c d e : Addr × OV} : [a, b, c, d, e].Perm ([b, a] ++ [c, d, e]) := .swap _ _ _
theorem p5b {a b c d e : Addr × OV} : [a, b, c, d, e].Perm ([d, c, a] ++ [b, e]) := .trans (List.perm_middle (l₁ := [a, b, c]) (l₂ := [e]) (a := d)) (.cons _ (List.perm_middle (l₁ := [a, b]) (l₂ := [e]) (a := c)))
theorem p5c {a b c d e : Addr × OV} : [a, b, c, d, e].Perm ([e, c, a] ++ [b, d]) := .trans (List.perm_middle (l₁ := [a, b, c, d]) (l₂ := []) (a := e)) (.cons _ (List.perm_middle (l₁ := [a, b]) (l₂ := [d]) (a := c)))
theorem seen1 {t n : Int} (h : 0 ≤ t ∧ t ≤ 12000 ∧ 0 ≤ n ∧ n ≤ 1000000000) : OkSeen [(t, n)] := ⟨Nat.le_refl _, Nat.le_of_ble_eq_true rfl, fun r hr => by rw [List.mem_singleton.mp hr]; exact h⟩
def spNone19 (R S T U W : Addr) : DSp := fun ds O Φ _ => ds = [] ∧ O = tb5 R S T U W ∧ Φ (.bl true) O
abbrev gNone : List Str := ["balance", "lapsed", "left", "list", "lapses", "fates", "worst_moment", "is_choice", "oldest_choice", "newest_choice", "together", "saved_together", "rescue", "rescued", "fit_life", "first_refused", "len", "Account"]
theorem sc_none19 : FnScope [] [] (defScope (topS 86)) := ⟨rfl, rfl, rfl, by decide +kernel, rfl, by decide +kernel, by decide +kernel⟩
theorem ok_none19 {M : Mach} {f Cc : Addr} {fd : FuncData} {k : Nat} {R S T U W : Addr} (F : Fun M.K "_law_none_right" "_law_none_right" (topS 86) f fd) (h1 : M.mg "list" = none) (h2 : M.mg "len" = none) (gb : GFnK M "balance" ["life"] k spApi_balance) (gl : GFnK M "lapsed" ["life"] k spApi_lapsed) (gle : GFnK M "left" ["life"] k spLeft)
    (glap : GGenK M "lapses" ["life"] k spLapG) (gf : GFnK M "fates" ["life"] k spFates) (gw : GFnK M "worst_moment" ["life"] k spWorst) (gc : GFnK M "is_choice" ["life"] k spIsChoice) (go : GFnK M "oldest_choice" ["life"] k spOldest) (gn : GFnK M "newest_choice" ["life"] k spNewest)
    (gtg : GSt M "together" 0 [] k spTog) (gsv : GSt M "saved_together" 1 ["life"] k spSavT) (gr : GFnK M "rescue" ["life"] k spRescue) (grd : GFnK M "rescued" ["life"] k spRescued) (gfl : GFn M "fit_life" k (spFit S R)) (gfr : GFnK M "first_refused" ["life"] k spFRef)
    (gacc : M.mg "Account" = some (.ref Cc)) (a : AccC M.K Cc) (gmk : GMk M Cc k (spAccInit Cc)) (glen : GLen M Cc k (spAccLen Cc)) (grem : GGenM M Cc "remaining" k (spRemain Cc)) :
    FnOk M.P M.w M.K M.mg M.base (L2N.CX M.P M.w) (k + 4) f fd [] (liftSp M.K (spNone19 R S T U W)) := by
  refine fn_body (k := k + 3) (N := []) (vn := []) (gl := gNone) F sc_none19 (by decide +kernel) (fun ds O Φ Ψ h => ?_) fun X B ds O Φ Ψ bd h => ?_
  · obtain ⟨rfl, _⟩ := h
    rfl
  obtain ⟨rfl, rfl, q⟩ := h
  have C := bd.C
  have br : Room k X.A := bd.r.mono (Nat.le_add_right k 3)
  have br1 : Room (k + 1) X.A := bd.r.mono (Nat.add_le_add_left (by decide : 1 ≤ 3) k)
  have n1 : Fine [] 1 := n_fine (by decide) (by decide)
  have n5 : Fine [] 5 := n_fine (by decide) (by decide)
  have n9 : Fine [] 9 := n_fine (by decide) (by decide)
  have nk : Fine [] 1000 := n_fine (by decide) (by decide)
  change WSs _ _ [] _ _ _
  refine wss_cons (ws_ifv (c := false) (pt_neSame (d := .lst [.int 0, .int 0, .lst []]) C (pv_frz (pn_lst (pa_consv (pv_callK C gb br (by decide +kernel) (by exists "ea") (by exists "ev") fun Φ Ψ z => ⟨[], 0, 1, rfl, n1, by decide, by decide, z⟩) (pa_consv (pv_callK C gl br (by decide +kernel) (by exists "ea") (by exists "ev") fun Φ Ψ z => ⟨[], 12000, 1000, rfl, nk, by decide, by decide, z⟩)
    (pa_consv (pv_callK C gle br (by decide +kernel) (by exists "ea") (by exists "ev") fun Φ Ψ z => ⟨[], 5, 9, rfl, n9, by decide, by decide, z⟩) pa_nilv (star_cons rfl)) (star_cons rfl)) (star_cons rfl)) (Nat.le_of_ble_eq_true rfl))) (by exists "ev") rfl) (fun h => by cases h) fun _ => wss_nil ?_)
  exists "nx"
  refine wss_cons (ws_ifv (c := false) (PWv.t (PWv.to (pwv_or (ca := false) (cb := false) (pt_neSame (d := .lst []) C (we_frz (wn_listGen C glap bd.r (by decide +kernel) h1 (by decide +kernel) (wa_pv (by exists "ea") (wk_cons (we_pv (by exists "ev") (wk_nil ⟨rfl, [], ⟨[], 5, rfl, n5, rfl⟩, Nat.zero_le _, rfl, rfl⟩)))))) (by exists "ev") rfl) fun _ =>
    pwv_or (ca := false) (cb := false) (pt_neSame (d := .lst []) C (pv_frzO (we_callK C gf br takes_no (by decide +kernel) (wa_pv (by exists "ea") (wk_cons (we_pv (by exists "ev") (wk_nil ⟨rfl, [], _, List.Perm.refl _, [], 5, rfl, rfl, n5, fun a => ⟨a, rfl, rfl⟩⟩)))))) (by exists "ev") rfl) fun _ =>
    pwv_or1 (PTv.to (pt_isnot (d1 := .non) (pv_callK C gw br (by decide +kernel) (by exists "ea") (by exists "ev") fun Φ Ψ z => ⟨[], 12000, 5, rfl, n5, by decide, by decide, z⟩) (by exists "ev")) rfl)) rfl)) (fun h => by cases h) fun _ => wss_nil ?_)
  exists "nx"
  refine wss_cons (ws_ifv (c := false) (PWv.t (PWv.to (pwv_or (ca := false) (cb := false) (PTv.to (pt_notB (x := true) (y := true) (pv_callK C gc br (by decide +kernel) (by exists "ea") (by exists "ev") fun Φ Ψ z => ⟨[], .tup [], 5, rfl, n5, vd_tks [] (Nat.zero_le _) (fun c hc => (List.not_mem_nil hc).elim), z⟩) (by exists "ev")) rfl) fun _ =>
    pwv_or (ca := false) (cb := false) (pt_neSame (d := .tup []) C (pv_callK C go br (by decide +kernel) (by exists "ea") (by exists "ev") fun Φ Ψ z => ⟨[], 5, rfl, n5, z⟩) (by exists "ev") rfl) fun _ =>
    pwv_or1 (pt_neSame (d := .tup []) C (pv_callKP (Oa := []) (List.Perm.refl _) C gn br (by decide +kernel) (by exists "ea") (by exists "ev") fun Φ Ψ z => ⟨[], 5, rfl, rfl, n5, z⟩) (by exists "ev") rfl)) rfl)) (fun h => by cases h) fun _ => wss_nil ?_)
  exists "nx"
  have o0 : ∀ {out : List (K4 × Ev)}, out.Perm (rowsL 0 []) → out = [] := fun p => List.Perm.eq_nil p
  have o2 : ∀ {out : List (K4 × Ev)}, out.Perm (rowsL 0 [[], []]) → out = [] := fun p => List.Perm.eq_nil p
  refine wss_cons (ws_ifv (c := false) (PWv.t (PWv.to (pwv_or (ca := false) (cb := false) (pt_neSame (d := .tup []) C (we_callSt0 C gtg br takes_no (by decide +kernel) ⟨[], _, List.Perm.refl _, [], rfl, rfl, Nat.zero_le _, (fun l hl => (List.not_mem_nil hl).elim), (by decide), fun out p t => by rw [o0 p]; exact ⟨rfl, rfl⟩⟩) (by exists "ev") rfl) fun _ =>
    pwv_or (ca := false) (cb := false) (PTv.to (pt_ne (d1 := .int 0) (we_callSt C gsv br takes_no (by decide +kernel) (wa_pv (d := [.int 0]) (by exists "ea") (wk_cons (we_pv pv_int (wk_nil ⟨Nat.le_of_ble_eq_true rfl, rfl, Nat.le_of_ble_eq_true rfl, [], _, List.Perm.refl _, [], 0, 5, rfl, rfl, Nat.zero_le _, by decide, by decide, by decide, by decide, (fun l hl => (List.not_mem_nil hl).elim), (by decide), fun out p t => by rw [o0 p]; exact ⟨rfl, rfl⟩⟩))))) (by exists "ev") rfl) rfl) fun _ =>
    pwv_or1 (pt_neSame (d := .tup []) C (we_callSt C gtg br takes_no (by decide +kernel) (wa_pv (d := [.tup [], .tup []]) (by exists "ea") (wk_nil ⟨Nat.zero_le _, rfl, Nat.le_of_ble_eq_true rfl, [], _, List.Perm.refl _, [[], []], rfl, rfl, Nat.le_of_ble_eq_true rfl, (fun l hl => by simp only [List.mem_cons, List.not_mem_nil, or_false, or_self] at hl; rw [hl]; exact n_ok), (by decide), fun out p t => by rw [o2 p]; exact ⟨rfl, rfl⟩⟩))) (by exists "ev") rfl)) rfl)) (fun h => by cases h) fun _ => wss_nil ?_)
  exists "nx"
  refine wss_cons (ws_ifv (c := false) (PWv.t (PWv.to (pwv_or (ca := false) (cb := false) (pt_neSame (d := .lst []) C (pv_frzO (we_callK C gr br takes_no (by decide +kernel) (wa_pv (by exists "ea") (wk_cons (we_pv (by exists "ev") (wk_nil ⟨rfl, [], _, List.Perm.refl _, [], 5, rfl, rfl, n5, fun a => ⟨a, rfl, rfl⟩⟩)))))) (by exists "ev") rfl) fun _ =>
    pwv_or (ca := false) (cb := false) (PTv.to (pt_ne (d1 := .int 0) (pv_callK C grd br (by decide +kernel) (by exists "ea") (by exists "ev") fun Φ Ψ z => ⟨[], 9, 5, rfl, n5, by decide, by decide, z⟩) (by exists "ev") rfl) rfl) fun _ =>
    pwv_or1 (pt_neSame (d := .tup [.int 1, .int 1000]) C (pv_callP p5a C gfl br (by decide +kernel) (pa_consv (PEv.to (d := .tup []) (d' := .tup (([] : List Ev).map eEv)) (by exists "ev") rfl) (pa_consv (PEv.to (d := .tup [.tup [.int 0, .int 0]]) (by exists "ev") rfl) pa_nilv)) fun Φ Ψ z => ⟨[], [(0, 0)], rfl, rfl, n_ok, seen1 (by decide), by rw [fit_none]; exact z⟩) (by exists "ev") rfl)) rfl)) (fun h => by cases h) fun _ => wss_nil ?_)
  exists "nx"
  refine wss_one (ws_ret (we_pv (d := .bl true) (PEv.to (pv_and (ca := true) (cb := true) (pv_is (d1 := .non) (pv_callK C gfr br (by decide +kernel) (by exists "ea") (by exists "ev") fun Φ Ψ z => ⟨[], 1, rfl, n_ok, by decide, by decide, z⟩) (by exists "ev")) fun _ =>
    PEv.to (pv_and (ca := true) (cb := true) (PEv.to (pv_eq (d1 := .int 0) (we_less (we_lenO (Cc := Cc) C glen br1 takes_no h2 (by decide +kernel) (we_make C gacc gmk br1 takes_no (by decide +kernel) (wa_pv (by exists "ea") fun q dx => ⟨[(q, .ins Cc dx [])], tb5 R S T U W, List.Perm.refl _, q, dx, 1, rfl, rfl, by decide, by decide, fun pq => ⟨rfl, q, dx, accF 1 [] 0 pq, rfl, (List.mem_append_left _ (List.mem_cons_of_mem _ List.mem_cons_self)), [(pq, .lst []), (q, .ins Cc dx (accF 1 [] 0 pq))], tb5 R S T U W, List.Perm.refl _, q, dx, pq, 1, [], 0, rfl, (by exists "mem"), by decide, 0, rfl, by decide, tb5 R S T U W, List.sublist_append_right _ _, rfl, rfl⟩⟩)))) (by exists "ev") rfl) rfl) fun _ =>
    pv_one (pv_eqSame (d := .lst []) C (we_less (we_frz (wn_listGenM (Cc := Cc) C a.cls grem bd.r h1 (by decide +kernel) (we_make C gacc gmk br1 takes_no (by decide +kernel) (wa_pv (by exists "ea") fun q dx => ⟨[(q, .ins Cc dx [])], tb5 R S T U W, List.Perm.refl _, q, dx, 1, rfl, rfl, by decide, by decide, fun pq => ⟨rfl, q, dx, accF 1 [] 0 pq, [(pq, .lst []), (q, .ins Cc dx (accF 1 [] 0 pq))] ++ tb5 R S T U W, [], [], rfl, (List.mem_append_left _ (List.mem_cons_of_mem _ List.mem_cons_self)), rfl, (by rw [List.append_nil]), ⟨q, dx, pq, 1, [], 0, rfl, (List.mem_append_left _ (List.mem_cons_of_mem _ List.mem_cons_self)), (fun e he => (List.not_mem_nil he).elim), Nat.zero_le _, rfl⟩, Nat.zero_le _, tb5 R S T U W, (by rw [List.append_nil]; exact List.sublist_append_right _ _), rfl, rfl⟩⟩))))) (by exists "ev") rfl)) rfl) rfl) q))
def spOne19 (R S T U W : Addr) : DSp := fun ds O Φ _ => ∃ v : Int, ds = [.int v] ∧ O = tb5 R S T U W ∧ 1 ≤ v ∧ v ≤ 1000000 ∧ Φ (.bl true) O
abbrev nOne19 : List Str := ["_law_v", "_law_one", "_law_both", "_law_moment"]
abbrev gOne19 : List Str := ["worst_moment", "after_more_earned", "rescue", "rescued", "fit_amount", "fit_earning", "fit_life", "balance", "list", "lapses", "fates", "first_refused", "is_possible", "oldest_choice"]
theorem sc_one19 : FnScope nOne19 ["_law_v"] (defScope (topS 87)) := ⟨rfl, rfl, rfl, by decide +kernel, rfl, by decide +kernel, by decide +kernel⟩
theorem ok_one19 {M : Mach} {f : Addr} {fd : FuncData} {k : Nat} {R S T U W : Addr} (F : Fun M.K "_law_one_right" "_law_one_right" (topS 87) f fd) (h1 : M.mg "list" = none) (gb : GFnK M "balance" ["life"] k spApi_balance) (gw : GFnK M "worst_moment" ["life"] k spWorst) (gme : GFnK M "after_more_earned" ["life"] k spEarned)
    (gr : GFnK M "rescue" ["life"] k spRescue) (grd : GFnK M "rescued" ["life"] k spRescued) (gfa : GFnK M "fit_amount" ["life"] k (spAmount U R T)) (gfe : GFnK M "fit_earning" ["life"] k (spEarning W R T)) (gfl : GFn M "fit_life" k (spFit S R))
    (glap : GGenK M "lapses" ["life"] k spLapG) (gf : GFnK M "fates" ["life"] k spFates) (gfr : GFnK M "first_refused" ["life"] k spFRef) (gp : GFnK M "is_possible" ["life"] k spPossB) (go : GFnK M "oldest_choice" ["life"] k spOldest) :
    FnOk M.P M.w M.K M.mg M.base (L2N.CX M.P M.w) (k + 4) f fd ["_law_v"] (liftSp M.K (spOne19 R S T U W)) := by
  refine fn_body (k := k + 3) (N := nOne19) (vn := ["_law_v", "_law_one", "_law_both"]) (gl := gOne19) F sc_one19 (by decide +kernel) (fun ds O Φ Ψ h => ?_) fun X B ds O Φ Ψ bd h => ?_
  · obtain ⟨_, rfl, _⟩ := h
    rfl
  obtain ⟨v, rfl, rfl, v1, v2, q⟩ := h
  have C := bd.C
  have br : Room k X.A := bd.r.mono (Nat.le_add_right k 3)
  have fk : Fine (E1 10000 v) 1000 := e1_fine (by decide) (by decide) v1 v2 (by decide) (by decide)
  have f1 : Fine (E1 10000 v) 1 := e1_fine (by decide) (by decide) v1 v2 (by decide) (by decide)
  have ok : OkLog (E1 10000 v) := fk.ok
  have fb : Fine (B19 v) 1 := both_fine v1 v2
  change WSs _ _ [some _, none, none, none] _ _ _
  refine wss_cons (ws_set C (by exists "sa") (by decide +kernel) (we_pv (PEv.to (d := .tup [.tup [.str "earn", .int 10000, .int v]]) (d' := .tup ((E1 10000 v).map eEv)) (by exists "ev") rfl) ?_))
  exists "nx"
  refine wss_cons (ws_ifv (c := false) (pt_neSame (d := .lst (([0, v, v, 0] : List Int).map D.int)) C (PEv.to (pv_frz (pn_lcA (own := [("_law_moment", 3)]) (xs := ([9999, 10000, 10999, 11000] : List Int)) (enc := D.int) (f := fun m => .int (total (playF 1000 m (E1 10000 v)).1)) C (by decide +kernel) (wiv_tup (PEv.to (d := .tup [.int 9999, .int 10000, .int 10999, .int 11000]) (by exists "ev") rfl)) (fun p hp => (List.not_mem_nil hp).elim) (Nat.le_of_ble_eq_true rfl) fun m hm => ⟨fun X' B' b => ?_⟩)) (by rw [← bal_one (v := v), List.map_map] <;> rfl)) (PEv.to (d := .lst [.int 0, .int v, .int v, .int 0]) (by exists "ev") rfl) rfl) (fun h => by cases h) fun _ => wss_nil ?_)
  · have hb : 0 ≤ m ∧ m ≤ 12000 := by
      simp only [List.mem_cons, List.not_mem_nil, or_false] at hm
      omega
    have C' := b.C
    exists "wp"
    refine wg_name C' (by exists "sa") (by decide +kernel) (by decide) ⟨rfl, fun X2 b2 => wf_nil ⟨rfl, rfl⟩, fun _ X3 b3 => ?_⟩
    have C3 := b3.C
    exact pv_callK C3 gb (b3.A ▸ br) (by decide +kernel) (by exists "ea") (by exists "ev") fun Φ Ψ z => ⟨E1 10000 v, m, 1000, rfl, fk, hb.1, hb.2, z⟩
  exists "nx"
  refine wss_cons (ws_ifv (c := false) (PWv.t (PWv.to (pwv_or (ca := false) (cb := false) (PTv.to (pt_ne (d1 := .int 11000) (pv_callK C gw br (by decide +kernel) (by exists "ea") (by exists "ev") fun Φ Ψ z => ⟨E1 10000 v, 11000, 1000, rfl, fk, by decide, by decide, by rw [worst_one]; exact z⟩) (by exists "ev") rfl) rfl) fun _ =>
    pwv_or1 (PTv.to (pt_ne (d1 := .int 11000) (pv_callK C gme br (by decide +kernel) (by exists "ea") (by exists "ev") fun Φ Ψ z => ⟨E1 10000 v, 0, 1000, 11000, 10000, v, rfl, fk, rfl, mov_one, z⟩) (by exists "ev") rfl) rfl)) rfl)) (fun h => by cases h) fun _ => wss_nil ?_)
  exists "nx"
  refine wss_cons (ws_ifv (c := false) (PWv.t (PWv.to (pwv_or (ca := false) (cb := false) (pt_neSame (d := .lst [.tup [.int 10000, .int v]]) C (pv_frzO (we_callK C gr br takes_no (by decide +kernel) (wa_pv (by exists "ea") (wk_cons (we_pv (by exists "ev") (wk_nil ⟨rfl, [], _, List.Perm.refl _, E1 10000 v, 1, rfl, rfl, f1, fun a => ⟨a, rfl, by rw [save_one] <;> rfl⟩⟩)))))) (by exists "ev") rfl) fun _ =>
    pwv_or (ca := false) (cb := false) (PTv.to (pt_ne (d1 := .int v) (pv_callK C grd br (by decide +kernel) (by exists "ea") (by exists "ev") fun Φ Ψ z => ⟨E1 10000 v, v, 1, rfl, f1, by omega, by omega, by rw [res_one (by omega) (Int.le_refl v)]; exact z⟩) (by exists "ev") rfl) (by rw [decide_eq_true rfl] <;> rfl)) fun _ =>
    pwv_or1 (PTv.to (pt_ne (d1 := .int (v - 1)) (pv_callK C grd br (by decide +kernel) (by exists "ea") (by exists "ev") fun Φ Ψ z => ⟨E1 10000 v, v - 1, 1, rfl, f1, by omega, by omega, by rw [res_one (by omega) (by omega)]; exact z⟩) (by exists "ev") rfl) (by rw [decide_eq_true rfl] <;> rfl))) rfl)) (fun h => by cases h) fun _ => wss_nil ?_)
  exists "nx"
  refine wss_cons (ws_ifv (c := false) (PWv.t (PWv.to (pwv_or (ca := false) (cb := false) (pt_neSame (d := .tup [.int v, .int v]) C (pv_callKP p5b C gfa br (by decide +kernel) (by exists "ea") (by exists "ev") fun Φ Ψ z => ⟨E1 10000 v, 0, (true, 10000, v), [(10000, v)], 5, rfl, rfl, ok, rfl, by decide, by decide, seen1 (by omega), by rw [amount_one v1 v2]; exact z⟩) (by exists "ev") rfl) fun _ =>
    pwv_or1 (pt_neSame (d := .tup [.int v, .int v]) C (pv_callKP p5c C gfe br (by decide +kernel) (by exists "ea") (by exists "ev") fun Φ Ψ z => ⟨[], 10000, [(10000, v)], 5, rfl, rfl, n_ok, Nat.zero_le _, by decide, by decide, by decide, by decide, seen1 (by omega), by rw [earning_one v1 v2]; exact z⟩) (by exists "ev") rfl)) rfl)) (fun h => by cases h) fun _ => wss_nil ?_)
  exists "nx"
  refine wss_cons (ws_ifv (c := false) (PWv.t (PWv.to (pwv_or (ca := false) (cb := false) (pt_neSame (d := .tup [.int 501, .int 1000]) C (pv_callP p5a C gfl br (by decide +kernel) (pa_consv (by exists "ev") (pa_consv (PEv.to (d := .tup [.tup [.int 10500, .int v]]) (by exists "ev") rfl) pa_nilv)) fun Φ Ψ z => ⟨E1 10000 v, [(10500, v)], rfl, rfl, ok, seen1 (by omega), by rw [fit_one v1]; exact z⟩) (by exists "ev") rfl) fun _ =>
    pwv_or1 (pt_neSame (d := .tup [.int 1, .int 500]) C (pv_callP p5a C gfl br (by decide +kernel) (pa_consv (by exists "ev") (pa_consv (PEv.to (d := .tup [.tup [.int 10500, .int 0]]) (by exists "ev") rfl) pa_nilv)) fun Φ Ψ z => ⟨E1 10000 v, [(10500, 0)], rfl, rfl, ok, seen1 (by decide), by rw [fit_one0 v1]; exact z⟩) (by exists "ev") rfl)) rfl)) (fun h => by cases h) fun _ => wss_nil ?_)
  exists "nx"
  refine wss_cons (ws_set C (by exists "sa") (by decide +kernel) (we_pv (PEv.to (d := .tup [.tup [.str "earn", .int 7, .int v], .tup [.str "spend", .int 7, .int v]]) (d' := .tup ((B19 v).map eEv)) (by exists "ev") rfl) ?_))
  exists "nx"
  refine wss_cons (ws_ifv (c := false) (PWv.t (PWv.to (pwv_or (ca := false) (cb := false) (PTv.to (pt_ne (d1 := .int 0) (pv_callK C gb br (by decide +kernel) (by exists "ea") (by exists "ev") fun Φ Ψ z => ⟨B19 v, 7, 1, rfl, fb, by decide, by decide, by rw [both_in v1 (by decide)]; exact z⟩) (by exists "ev") rfl) rfl) fun _ =>
    pwv_or (ca := false) (cb := false) (pt_neSame (d := .lst []) C (we_frz (wn_listGen C glap bd.r (by decide +kernel) h1 (by decide +kernel) (wa_pv (by exists "ea") (wk_cons (we_pv (by exists "ev") (wk_nil ⟨rfl, [], ⟨B19 v, 1, rfl, fb, by rw [both_laps v1] <;> rfl⟩, Nat.zero_le _, rfl, rfl⟩)))))) (by exists "ev") rfl) fun _ =>
    pwv_or1 (pt_neSame (d := .lst [.tup [.int 0, .int v, .int 0]]) C (pv_frzO (we_callK C gf br takes_no (by decide +kernel) (wa_pv (by exists "ea") (wk_cons (we_pv (by exists "ev") (wk_nil ⟨rfl, [], _, List.Perm.refl _, B19 v, 1, rfl, rfl, fb, fun a => ⟨a, rfl, by rw [both_fates v1] <;> rfl⟩⟩)))))) (by exists "ev") rfl)) rfl)) (fun h => by cases h) fun _ => wss_nil ?_)
  exists "nx"
  refine wss_cons (ws_ifv (c := false) (PTv.to (pt_ne (d1 := .int 0) (pv_callK C gfr br (by decide +kernel) (by exists "ea") (by exists "ev") fun Φ Ψ z => ⟨[(false, 0, v)], 1000, rfl, sp_ok v1 v2, by decide, by decide, by rw [sp_ref v1]; exact z⟩) (by exists "ev") rfl) rfl) (fun h => by cases h) fun _ => wss_nil ?_)
  exists "nx"
  refine wss_cons (ws_ifv (c := false) (PTv.to (pt_notB (x := false) (y := false) (pv_callK C gp br (by decide +kernel) (by exists "ea") (by exists "ev") fun Φ Ψ z => ⟨[(true, 0, v), (false, 1, v)], 1, rfl, es_ok v1 v2, by decide, by decide, by rw [es_ref v1]; exact z⟩) (by exists "ev")) rfl) (fun h => by cases h) fun _ => wss_nil ?_)
  exists "nx"
  exact wss_one (ws_ret (we_pv (d := .bl true) (pv_eqSame (d := .tup [.tup [.tup [.int 0, .int v]]]) C (pv_callK C go br (by decide +kernel) (by exists "ea") (by exists "ev") fun Φ Ψ z => ⟨B19 v, 1, rfl, fb, by rw [both_in v1 (by decide)]; exact z⟩) (by exists "ev") rfl) q))
abbrev nNameOf : List Str := ["_law_e", "_law_matching", "_law_words", "_law_found", "_law_word", "_law_good"]
abbrev xWords : List Str := ["Log", "Life", "Time", "Amount", "Index", "Choice", "Seen", "Number", "Enough", "Undo", "Refused", "Many"]
abbrev xGlob : List Str := "isinstance" :: "zip" :: "ValueError" :: xNames
def exName (f : Str → Bool) : Str := Txt.join "" (Hz.kept xWords (xNames.map f)) ++ "+"
/-- the class at D: which of the names it comes under -/
structure Named (M : Mach) (D : Addr) (f : Str → Bool) : Prop where
  exc : ExcC M.K D
  is : ∀ n ∈ xNames, ∃ c, M.mg n = some (.ref c) ∧ PySem.W.kitOne M.K (.ref D) (.ref c) = some (f n)
  ve : PySem.W.kitOne M.K (.ref D) (.type "ValueError") = some true
  short : ((Hz.kept xWords (xNames.map f)).map (·.length)).sum ≤ 500 ∧ (Txt.join "" (Hz.kept xWords (xNames.map f))).length ≤ 500
def spNamed (M : Mach) : DSp := fun ds O Φ _ => ∃ (q Dc : Addr) (dx : Option Addr) (fs : List (Str × D)) (f : Str → Bool), ds = [.obj q] ∧ (q, OV.ex Dc dx fs) ∈ O ∧ Named M Dc f ∧ Φ (.str (exName f)) O
theorem kept_zip (ws : List Str) (gs : List Bool) : (((List.zip ws gs).filter fun p => p.2).map fun p => D.str p.1) = (Hz.kept ws gs).map D.str := by
  unfold Hz.kept
  rw [List.map_map]
  rfl
theorem sc_named : FnScope nNameOf ["_law_e"] (defScope (topS 84)) := ⟨rfl, rfl, rfl, by decide +kernel, rfl, by decide +kernel, by decide +kernel⟩
theorem ok_named {M : Mach} {f : Addr} {fd : FuncData} {k : Nat} (F : Fun M.K "_law_name_of" "_law_name_of" (topS 84) f fd) (h1 : M.mg "isinstance" = none) (h2 : M.mg "zip" = none) (h3 : M.mg "ValueError" = none) :
    FnOk M.P M.w M.K M.mg M.base (L2N.CX M.P M.w) (k + 1) f fd ["_law_e"] (liftSp M.K (spNamed M)) := by
  refine fn_body (N := nNameOf) (vn := ["_law_e", "_law_matching", "_law_words", "_law_found"]) (gl := xGlob) F sc_named (by decide +kernel) (fun ds O Φ Ψ h => ?_) fun X B ds O Φ Ψ bd h => ?_
  · obtain ⟨_, _, _, _, _, rfl, _⟩ := h
    rfl
  obtain ⟨q, Dc, dx, fs, g, rfl, hm, nm, z⟩ := h
  have C := bd.C
  have hi : ∀ {G : Sl} {p1 p2 p3 pos : Pos} {n : Str}, n ∈ xNames → xGlob.contains n = true → PEv X B (some (.obj q) :: G) O (.Call (.Name "isinstance" p1) [.Name "_law_e" p2, .Name n p3] [] pos) (.bl (g n)) := fun {G p1 p2 p3 pos n} hn hc => by
    obtain ⟨c, mc, kc⟩ := nm.is n hn
    exact pv_isO C h1 (by decide +kernel) (by exists "ev") hm nm.exc hc mc kc
  have three : ∀ {G : Sl} {n1 n2 n3 : Str} {a1 a2 a3 a4 b1 b2 b3 b4 c1 c2 c3 c4 : Pos}, (n1 ∈ xNames ∧ xGlob.contains n1 = true) → (n2 ∈ xNames ∧ xGlob.contains n2 = true) → (n3 ∈ xNames ∧ xGlob.contains n3 = true) →
      PAv X B (some (.obj q) :: G) O [.Call (.Name "isinstance" a1) [.Name "_law_e" a2, .Name n1 a3] [] a4, .Call (.Name "isinstance" b1) [.Name "_law_e" b2, .Name n2 b3] [] b4, .Call (.Name "isinstance" c1) [.Name "_law_e" c2, .Name n3 c3] [] c4] [.bl (g n1), .bl (g n2), .bl (g n3)] := fun h1 h2 h3 =>
    pa_consv (hi h1.1 h1.2) (pa_consv (hi h2.1 h2.2) (pa_consv (hi h3.1 h3.2) pa_nilv (star_cons rfl)) (star_cons rfl)) (star_cons rfl)
  change WSs _ _ [some _, none, none, none, none, none] _ _ _
  refine wss_cons (ws_set C (by exists "sa") (by decide +kernel) (we_pv (pv_frz (pn_lst (three (by decide) (by decide) (by decide)) (Nat.le_of_ble_eq_true rfl))) ?_))
  exists "nx"
  refine wss_cons (ws_set C (by exists "sa") (by decide +kernel) (we_pv (pv_frz (pn_cat (by exists "ev") (pv_frz (pn_lst (three (by decide) (by decide) (by decide)) (Nat.le_of_ble_eq_true rfl))) .lst .lst (Nat.le_of_ble_eq_true rfl))) ?_))
  exists "nx"
  refine wss_cons (ws_set C (by exists "sa") (by decide +kernel) (we_pv (pv_frz (pn_cat (by exists "ev") (pv_frz (pn_lst (three (by decide) (by decide) (by decide)) (Nat.le_of_ble_eq_true rfl))) .lst .lst (Nat.le_of_ble_eq_true rfl))) ?_))
  exists "nx"
  refine wss_cons (ws_set C (by exists "sa") (by decide +kernel) (we_pv (pv_frz (pn_cat (by exists "ev") (pv_frz (pn_lst (three (by decide) (by decide) (by decide)) (Nat.le_of_ble_eq_true rfl))) .lst .lst (Nat.le_of_ble_eq_true rfl))) ?_))
  exists "nx"
  refine wss_cons (ws_set C (by exists "sa") (by decide +kernel) (we_pv (d := .lst (xWords.map D.str)) (PEv.to (d := .lst [.str "Log", .str "Life", .str "Time", .str "Amount", .str "Index", .str "Choice", .str "Seen", .str "Number", .str "Enough", .str "Undo", .str "Refused", .str "Many"]) (by exists "ev") rfl) ?_))
  exists "nx"
  refine wss_cons (ws_setLcP (own := [("_law_word", 4), ("_law_good", 5)]) (xs := List.zip xWords (xNames.map g)) (enc := fun p => .tup [.str p.1, .bl p.2]) (c := fun p => p.2) (f := fun p => D.str p.1) C (by exists "sa") (by decide +kernel) (by decide +kernel) (wiv_zip (xs := xWords.map D.str) (ys := (xNames.map g).map D.bl) C h2 (by decide +kernel) (by exists "ev") (PEv.to (d := .lst [.bl (g "InvalidLog"), .bl (g "InvalidLife"), .bl (g "InvalidTime"), .bl (g "InvalidAmount"), .bl (g "InvalidIndex"), .bl (g "InvalidChoice"), .bl (g "InvalidSeen"), .bl (g "InvalidNumber"), .bl (g "NotEnough"), .bl (g "NothingToUndo"), .bl (g "Refused"), .bl (g "TooMany")]) (by exists "ev") rfl) (.inr ⟨rfl, rfl⟩)) (fun p hp => (List.not_mem_nil hp).elim) (Nat.le_of_ble_eq_true rfl) (fun p hp => ⟨fun X' B' b => ?_⟩) fun p => ?_)
  · have C' := b.C
    exists "wp"
    refine wg_tup C' (wgs_cons (wg_name C' (by exists "sa") (by decide +kernel) (by decide) (wgs_cons (wg_name C' (by exists "sa") (by decide +kernel) (by decide) (wgs_nil ⟨rfl, fun X2 b2 => ?_, fun _ X3 b3 => ?_⟩)))))
    · have C2 := b2.C
      exact wf_pv (pt_ofv (by exists "ev")) ⟨rfl, rfl⟩
    · have C3 := b3.C
      exists "ev"
  exists "nx"
  rw [kept_zip]
  have hm2 : (q, OV.ex Dc dx fs) ∈ (p, OV.lst ((Hz.kept xWords (xNames.map g)).map D.str)) :: O := List.mem_cons_of_mem _ hm
  refine wss_one (ws_ret (we_less (we_pv (d := .str (exName g)) (pv_adds (pv_join pv_str (by exists "ev") (.own List.mem_cons_self) ?_) (pv_if (ca := true) (d2 := .str "") (pt_ofv (pv_isOT C h1 (by decide +kernel) (by exists "ev") hm2 nm.exc (by decide +kernel) h3 (by rfl) (by decide) nm.ve)) (fun _ => pv_str) (fun h => by cases h)) ?_) ⟨O, List.sublist_cons_self _ _, z⟩)))
  · exact Nat.le_trans (Nat.add_le_add nm.short.1 (Nat.le_of_eq (Nat.mul_zero _))) (by decide)
  · exact Nat.le_trans (Nat.add_le_add_right nm.short.2 1) (by decide)
structure NamedP (M : Mach) (D : Addr) (n : Str) : Prop where
  nm : Named M D fun m => decide (m = n)
  pe : ∃ p, M.mg "PointError" = some (.ref p) ∧ PySem.W.kitOne M.K (.ref D) (.ref p) = some true
def ExIn (M : Mach) (O : Own) (x : Addr × Str) : Prop := ∃ (Dc : Addr) (dx : Option Addr) (fs : List (Str × D)), (x.1, OV.ex Dc dx fs) ∈ O ∧ NamedP M Dc x.2
theorem ExIn.mono {M : Mach} {O : Own} {x : Addr × Str} {p : Addr × OV} (h : ExIn M O x) : ExIn M (p :: O) x := by
  obtain ⟨a, b, c, h1, h2⟩ := h
  exact ⟨a, b, c, List.mem_cons_of_mem _ h1, h2⟩
abbrev nMade : List Str := ["_law_some", "_law_words", "_law_e"]
abbrev gMade : List Str := xNames
abbrev wMade : Str := "Log+ Life+ Time+ Amount+ Index+ Choice+ Seen+ Number+ Enough+ Undo+ Refused+ Many+"
def spTrue : DSp := fun ds O Φ _ => ds = [] ∧ O = [] ∧ ∀ O', Φ (.bl true) O'
theorem made_words : (xNames.map fun n => exName fun m => decide (m = n)) = Txt.split wMade " " := by decide +kernel
theorem sc_made : FnScope nMade [] (defScope (topS 89)) := ⟨rfl, rfl, rfl, by decide +kernel, rfl, by decide +kernel, by decide +kernel⟩
theorem ok_made {M : Mach} {f : Addr} {fd : FuncData} {k : Nat} (F : Fun M.K "_law_made_right" "_law_made_right" (topS 89) f fd) (h1 : M.mg "isinstance" = none) (gn : GFn M "_law_name_of" (k + 2) (spNamed M)) (hx : ∀ n ∈ xNames.take 10, GExc M n) (hr : GExcO M "Refused" "index" (k + 1)) (ht : GExcO M "TooMany" "limit" (k + 1))
    (nm : ∀ n ∈ xNames, ∀ c, M.mg n = some (.ref c) → NamedP M c n) (xr : ∀ c, M.mg "Refused" = some (.ref c) → XfC M.K c ∧ PySem.W.findIn M.K (.ref c) "index" = some none) (xt : ∀ c, M.mg "TooMany" = some (.ref c) → XfC M.K c ∧ PySem.W.findIn M.K (.ref c) "limit" = some none) :
    FnOk M.P M.w M.K M.mg M.base (L2N.CX M.P M.w) (k + 3) f fd [] (liftSp M.K spTrue) := by
  refine fn_body (N := nMade) (vn := ["_law_some", "_law_words"]) (gl := gMade) F sc_made (by decide +kernel) (fun ds O Φ Ψ h => ?_) fun X B ds O Φ Ψ bd h => ?_
  · obtain ⟨rfl, _⟩ := h
    rfl
  obtain ⟨rfl, rfl, z⟩ := h
  have C := bd.C
  have br := bd.r
  change WSs _ _ [none, none, none] _ _ _
  refine wss_cons (ws_set C (by exists "sa") (by decide +kernel) (we_frz (wn_lst (wa_cons (we_exc1 C (hx _ (by decide)) (by decide +kernel) fun c1 q1 m1 => wa_cons (we_exc1 C (hx _ (by decide)) (by decide +kernel) fun c2 q2 m2 => wa_cons (we_exc1 C (hx _ (by decide)) (by decide +kernel) fun c3 q3 m3 => wa_cons (we_exc1 C (hx _ (by decide)) (by decide +kernel) fun c4 q4 m4 => wa_cons (we_exc1 C (hx _ (by decide)) (by decide +kernel) fun c5 q5 m5 => wa_nil ⟨Nat.le_of_ble_eq_true rfl, ?_⟩)))))))))
  exists "nx"
  refine wss_cons (ws_set C (by exists "sa") (by decide +kernel) (we_frz (wn_cat (we_pv (by exists "ev") (we_frz (wn_lst (wa_cons (we_exc1 C (hx _ (by decide)) (by decide +kernel) fun c6 q6 m6 => wa_cons (we_exc1 C (hx _ (by decide)) (by decide +kernel) fun c7 q7 m7 => wa_cons (we_exc1 C (hx _ (by decide)) (by decide +kernel) fun c8 q8 m8 => wa_cons (we_exc1 C (hx _ (by decide)) (by decide +kernel) fun c9 q9 m9 => wa_cons (we_exc1 C (hx _ (by decide)) (by decide +kernel) fun c10 q10 m10 => wa_nil ⟨Nat.le_of_ble_eq_true rfl, _, _, .lst, .lst, Nat.le_of_ble_eq_true rfl, ?_⟩))))))))))))
  exists "nx"
  refine wss_cons (ws_set C (by exists "sa") (by decide +kernel) (we_frz (wn_cat (we_pv (by exists "ev") (we_frz (wn_lst (wa_cons (we_excO C (br.mono (by omega)) hr (by decide +kernel) pv_int fun c11 q11 d11 m11 => wa_cons (we_excO C (br.mono (by omega)) ht (by decide +kernel) pv_int fun c12 q12 d12 m12 => wa_nil ⟨Nat.le_of_ble_eq_true rfl, _, _, .lst, .lst, Nat.le_of_ble_eq_true rfl, ?_⟩)))))))))
  exists "nx"
  refine wss_cons (ws_set C (by exists "sa") (by decide +kernel) (we_pv pv_str ?_))
  exists "nx"
  obtain ⟨T11, n11⟩ := xr _ m11
  obtain ⟨T12, n12⟩ := xt _ m12
  generalize hO : ((q12, OV.ex c12 (some d12) [("limit", .int 7)]) :: (q11, OV.ex c11 (some d11) [("index", .int 4)]) :: (q10, OV.ex c10 none []) :: (q9, OV.ex c9 none []) :: (q8, OV.ex c8 none []) :: (q7, OV.ex c7 none []) :: (q6, OV.ex c6 none []) :: (q5, OV.ex c5 none []) :: (q4, OV.ex c4 none []) :: (q3, OV.ex c3 none []) :: (q2, OV.ex c2 none []) :: (q1, OV.ex c1 none []) :: []) = O
  have hall : ∀ x ∈ ([(q1, "InvalidLog"), (q2, "InvalidLife"), (q3, "InvalidTime"), (q4, "InvalidAmount"), (q5, "InvalidIndex"), (q6, "InvalidChoice"), (q7, "InvalidSeen"), (q8, "InvalidNumber"), (q9, "NotEnough"), (q10, "NothingToUndo"), (q11, "Refused"), (q12, "TooMany")] : List (Addr × Str)), ExIn M O x := by
    subst hO
    refine List.forall_mem_cons.mpr ⟨⟨c1, none, [], (by repeat (first | with_reducible exact List.mem_cons_self | with_reducible apply List.mem_cons_of_mem)), nm "InvalidLog" (by decide) _ m1⟩, List.forall_mem_cons.mpr ⟨⟨c2, none, [], (by repeat (first | with_reducible exact List.mem_cons_self | with_reducible apply List.mem_cons_of_mem)), nm "InvalidLife" (by decide) _ m2⟩, List.forall_mem_cons.mpr ⟨⟨c3, none, [], (by repeat (first | with_reducible exact List.mem_cons_self | with_reducible apply List.mem_cons_of_mem)), nm "InvalidTime" (by decide) _ m3⟩, List.forall_mem_cons.mpr ⟨⟨c4, none, [], (by repeat (first | with_reducible exact List.mem_cons_self | with_reducible apply List.mem_cons_of_mem)), nm "InvalidAmount" (by decide) _ m4⟩, List.forall_mem_cons.mpr ⟨⟨c5, none, [], (by repeat (first | with_reducible exact List.mem_cons_self | with_reducible apply List.mem_cons_of_mem)), nm "InvalidIndex" (by decide) _ m5⟩, List.forall_mem_cons.mpr ⟨⟨c6, none, [], (by repeat (first | with_reducible exact List.mem_cons_self | with_reducible apply List.mem_cons_of_mem)), nm "InvalidChoice" (by decide) _ m6⟩, List.forall_mem_cons.mpr ⟨⟨c7, none, [], (by repeat (first | with_reducible exact List.mem_cons_self | with_reducible apply List.mem_cons_of_mem)), nm "InvalidSeen" (by decide) _ m7⟩, List.forall_mem_cons.mpr ⟨⟨c8, none, [], (by repeat (first | with_reducible exact List.mem_cons_self | with_reducible apply List.mem_cons_of_mem)), nm "InvalidNumber" (by decide) _ m8⟩, List.forall_mem_cons.mpr ⟨⟨c9, none, [], (by repeat (first | with_reducible exact List.mem_cons_self | with_reducible apply List.mem_cons_of_mem)), nm "NotEnough" (by decide) _ m9⟩, List.forall_mem_cons.mpr ⟨⟨c10, none, [], (by repeat (first | with_reducible exact List.mem_cons_self | with_reducible apply List.mem_cons_of_mem)), nm "NothingToUndo" (by decide) _ m10⟩, List.forall_mem_cons.mpr ⟨⟨c11, some d11, [("index", .int 4)], (by repeat (first | with_reducible exact List.mem_cons_self | with_reducible apply List.mem_cons_of_mem)), nm "Refused" (by decide) _ m11⟩, List.forall_mem_cons.mpr ⟨⟨c12, some d12, [("limit", .int 7)], (by repeat (first | with_reducible exact List.mem_cons_self | with_reducible apply List.mem_cons_of_mem)), nm "TooMany" (by decide) _ m12⟩, fun x hx => (List.not_mem_nil hx).elim⟩⟩⟩⟩⟩⟩⟩⟩⟩⟩⟩⟩
  have e12 : (q12, OV.ex c12 (some d12) [("limit", .int 7)]) ∈ O := by subst hO; exact List.mem_cons_self
  have e11 : (q11, OV.ex c11 (some d11) [("index", .int 4)]) ∈ O := by subst hO; exact List.mem_cons_of_mem _ List.mem_cons_self
  have Z : ∀ O', Φ (.bl true) O' := z
  clear hO
  generalize hxs : ([(q1, "InvalidLog"), (q2, "InvalidLife"), (q3, "InvalidTime"), (q4, "InvalidAmount"), (q5, "InvalidIndex"), (q6, "InvalidChoice"), (q7, "InvalidSeen"), (q8, "InvalidNumber"), (q9, "NotEnough"), (q10, "NothingToUndo"), (q11, "Refused"), (q12, "TooMany")] : List (Addr × Str)) = xs at hall
  have hn : xs.map (fun x => D.str (exName fun m => decide (m = x.2))) = (Txt.split wMade " ").map D.str := by
    rw [← made_words, ← hxs] <;> rfl
  have hl : xs.length ≤ 1000000 := by rw [← hxs]; exact Nat.le_of_ble_eq_true rfl
  have hits : ([.obj q1, .obj q2, .obj q3, .obj q4, .obj q5, .obj q6, .obj q7, .obj q8, .obj q9, .obj q10, .obj q11, .obj q12] : List D) = xs.map fun x => D.obj x.1 := by rw [← hxs] <;> rfl
  have sh : SeqAt.shaped (.list (toPyL ((Txt.split wMade " ").map D.str))) = true := by decide +kernel
  refine wss_cons (ws_ifv (c := false) (PWv.t (PWv.to (pwv_or (ca := false) (cb := false) (PTv.to (pt_neD C (pv_frz (pn_lcA (own := [("_law_e", 2)]) (xs := xs) (enc := fun x => D.obj x.1) (f := fun x => D.str (exName fun m => decide (m = x.2))) C (by decide +kernel) (wiv_lst (PEv.to (by exists "ev") (congrArg D.lst hits))) (fun p hp => (List.not_mem_nil hp).elim) hl fun x hx => ⟨fun X' B' b => ?_⟩)) (pv_frz (wn_split (by exists "ev") pv_str (by decide +kernel) (by decide +kernel) ⟨rfl, rfl⟩)) .val .val ?_ ?_) ?_) fun _ => pwv_or (ca := false) (cb := false) (PTv.to (pt_ne (d1 := .int 7) (pv_xat C (pv_ix (by exists "ev") (by exists "ev") .lst rfl) e12 T12 n12 rfl) (by exists "ev") rfl) rfl) fun _ => pwv_or1 (PTv.to (pt_ne (d1 := .int 4) (pv_xat C (pv_ix (by exists "ev") (by exists "ev") .lst rfl) e11 T11 n11 rfl) (by exists "ev") rfl) rfl)) rfl)) (fun h => by cases h) fun _ => wss_nil ?_)
  · have C' := b.C
    exists "wp"
    refine wg_name C' (by exists "sa") (by decide +kernel) (by decide) ⟨rfl, fun X2 b2 => wf_nil ⟨rfl, rfl⟩, fun _ X3 b3 => ?_⟩
    have C3 := b3.C
    obtain ⟨Dc, dx, fs, hm, np⟩ := hall x hx
    exact pv_call C3 gn (b3.A ▸ br) (by decide +kernel) (by exists "ea") fun Φ Ψ z => ⟨x.1, Dc, dx, fs, fun m => decide (m = x.2), rfl, hm, np.nm, z⟩
  · rw [hn]; exact sh
  · exact sh
  · rw [hn]
    exact congrArg (fun b => !b) (eqv_same sh)
  exists "nx"
  have e0 : D.lst ((xs.filter fun _ => false).map fun x => D.obj x.1) = .lst [] := by
    rw [List.filter_eq_nil_iff.mpr (fun _ _ => Bool.false_ne_true)] <;> rfl
  refine wss_one (ws_ret (we_pv (d := .bl true) (pv_eqSame (d := .lst []) C (PEv.to (pv_frz (pn_lc (own := [("_law_e", 2)]) (xs := xs) (enc := fun x => D.obj x.1) (c := fun _ => false) (f := fun x => D.obj x.1) C (by decide +kernel) (wiv_lst (PEv.to (by exists "ev") (congrArg D.lst hits))) (fun p hp => (List.not_mem_nil hp).elim) hl fun x hx => ⟨fun X' B' b => ?_⟩)) e0) (by exists "ev") rfl) (Z _)))
  have C' := b.C
  obtain ⟨Dc, dx, fs, hm, np⟩ := hall x hx
  obtain ⟨pp, mp, kp⟩ := np.pe
  exists "wp"
  refine wg_name C' (by exists "sa") (by decide +kernel) (by decide) ⟨rfl, fun X2 b2 => ?_, fun h => by cases h⟩
  have C2 := b2.C
  exact wf_pv (pt_notv (ca := true) (pt_ofv (pv_isO C2 h1 (by decide +kernel) (by exists "ev") hm np.nm.exc (by decide +kernel) mp kp))) ⟨rfl, rfl⟩
def spIsLogL : DSp := fun ds O Φ _ => ∃ xs : List D, ds = [.tup xs] ∧ 30 < xs.length ∧ Φ (.bl false) O
theorem ok_islogl {M : Mach} {f : Addr} {fd : FuncData} {k : Nat} (F : Fun M.K "is_log" "is_log" (topS 22) f fd) (h1 : M.mg "isinstance" = none) (h2 : M.mg "tuple" = none) (h4 : M.mg "len" = none) (h6 : ∃ t, M.mg "MOST_EVENTS" = some (.int 30 t)) :
    FnOk M.P M.w M.K M.mg M.base (L2N.CX M.P M.w) (k + 1) f fd ["value"] (liftSp M.K spIsLogL) := by
  refine fn_body (N := nIsLog) (vn := ["value"]) (gl := ["isinstance", "tuple", "all", "len", "MOST_EVENTS", "zip"]) F sc_islog (by decide +kernel) (fun ds O Φ Ψ h => ?_) fun X B ds O Φ Ψ bd h => ?_
  · obtain ⟨_, rfl, _⟩ := h
    rfl
  obtain ⟨xs, rfl, hl, q⟩ := h
  have C := bd.C
  change WSs _ _ [some _, none, none, none] _ _ _
  exact wss_cons (ws_if (wt_pv (PWv.t (PWv.to (pwv_or (ca := false) (cb := true) (PTv.to (pt_notv (ca := true) (pt_ofv (by exists "ev"))) rfl) fun _ => PWv.to (pwv_or (ca := true) (cb := true) (PTv.to (pt_gt (by exists "ev") (by exists "ev")) (decide_eq_true (by omega))) fun h => by cases h) rfl) rfl)) (if_t (c := true) rfl (wss_one (ws_ret (we_pv (by exists "ev") q))))))
def spMany19 (R S T U W : Addr) : DSp := fun ds O Φ _ => ds = [] ∧ O = tb5 R S T U W ∧ Φ (.bl true) O
abbrev nMany19 : List Str := ["_law_earned", "_law_log", "_law_account", "_law_k"]
abbrev gMany19 : List Str := ["tuple", "range", "is_possible", "first_refused", "is_log", "balance", "list", "lapses", "Account", "len", "regular_lapsed", "first_lapse"]
theorem sc_many19 : FnScope nMany19 [] (defScope (topS 88)) := ⟨rfl, rfl, rfl, by decide +kernel, rfl, by decide +kernel, by decide +kernel⟩
theorem ok_many19 {M : Mach} {f Cc : Addr} {fd : FuncData} {k : Nat} {R S T U W : Addr} (F : Fun M.K "_law_many_right" "_law_many_right" (topS 88) f fd) (h1 : M.mg "list" = none) (h2 : M.mg "len" = none) (h3 : M.mg "tuple" = none) (h4 : M.mg "range" = none) (gp : GFnK M "is_possible" ["life"] k spPossB) (gfr : GFnK M "first_refused" ["life"] k spFRef) (gil : GFn M "is_log" k spIsLogL)
    (gb : GFnK M "balance" ["life"] k spApi_balance) (glap : GGenK M "lapses" ["life"] k spLapG) (grl : GFnK M "regular_lapsed" ["life"] k spRegular) (gfl : GFnK M "first_lapse" ["life"] k spFLap)
    (gacc : M.mg "Account" = some (.ref Cc)) (a : AccC M.K Cc) (gy : GCm M Cc "yearly" k (spYearly Cc)) (ge : GMtSt M Cc "earn" 2 k (spEarnA Cc)) (gs : GMt M Cc "spend" k (spSpendA Cc)) (gw : GMt M Cc "wait" k (spWaitA Cc)) (glen : GLen M Cc k (spAccLen Cc)) :
    FnOk M.P M.w M.K M.mg M.base (L2N.CX M.P M.w) (k + 4) f fd [] (liftSp M.K (spMany19 R S T U W)) := by
  refine fn_body (k := k + 3) (N := nMany19) (vn := ["_law_earned", "_law_log", "_law_account"]) (gl := gMany19) F sc_many19 (by decide +kernel) (fun ds O Φ Ψ h => ?_) fun X B ds O Φ Ψ bd h => ?_
  · obtain ⟨rfl, _⟩ := h
    rfl
  obtain ⟨rfl, rfl, z⟩ := h
  have C := bd.C
  have br : Room k X.A := bd.r.mono (Nat.le_add_right k 3)
  have br1 : Room (k + 1) X.A := bd.r.mono (Nat.add_le_add_left (by decide : 1 ≤ 3) k)
  have fQ : Fine Q19 1 := ⟨ok_Q19, by decide, by decide, no_Q19⟩
  have fL : Fine (Q19 ++ S19) 1000 := ⟨ok_QS19, by decide, by decide, no_QSL⟩
  change WSs _ _ [none, none, none, none] _ _ _
  refine wss_cons (ws_set C (by exists "sa") (by decide +kernel) (we_pv (PEv.to (d' := .tup (Q19.map eEv)) (pv_tuple C (pv_frz (pn_lcA (own := [("_law_k", 3)]) (xs := List.range 15) (enc := fun i : Nat => D.int (0 + (i : Nat))) (f := fun i : Nat => eEv (true, 0 + (i : Nat), 1000000)) C (by decide +kernel) (wi_range1 C h4 (by decide +kernel) (we_pv pv_int ⟨15, rfl, by decide, by decide, rfl, rfl, rfl⟩)) (fun p hp => (List.not_mem_nil hp).elim) (by decide) fun i hi => ⟨fun X' B' b => ?_⟩)) .lst h3 (by decide +kernel)) rfl) ?_))
  · have C' := b.C
    exists "wp"
    refine wg_name C' (by exists "sa") (by decide +kernel) (by decide) ⟨rfl, fun X2 b2 => wf_nil ⟨rfl, rfl⟩, fun _ X3 b3 => ?_⟩
    have C3 := b3.C
    exact PEv.to (d := .tup [.str "earn", .int (0 + (i : Nat)), .int (10 ^ (6 : Int).toNat)]) (by exists "ev") rfl
  exists "nx"
  refine wss_cons (ws_set C (by exists "sa") (by decide +kernel) (we_pv (PEv.to (d' := .tup ((Q19 ++ S19).map eEv)) (pv_catT (by exists "ev") (pv_tuple C (pv_frz (pn_lcA (own := [("_law_k", 3)]) (xs := List.range 15) (enc := fun i : Nat => D.int (0 + (i : Nat))) (f := fun i : Nat => eEv (false, 15 + (0 + (i : Nat)), 1000000)) C (by decide +kernel) (wi_range1 C h4 (by decide +kernel) (we_pv pv_int ⟨15, rfl, by decide, by decide, rfl, rfl, rfl⟩)) (fun p hp => (List.not_mem_nil hp).elim) (by decide) fun i hi => ⟨fun X' B' b => ?_⟩)) .lst h3 (by decide +kernel)) (Nat.le_of_ble_eq_true rfl)) rfl) ?_))
  · have C' := b.C
    exists "wp"
    refine wg_name C' (by exists "sa") (by decide +kernel) (by decide) ⟨rfl, fun X2 b2 => wf_nil ⟨rfl, rfl⟩, fun _ X3 b3 => ?_⟩
    have C3 := b3.C
    exact PEv.to (d := .tup [.str "spend", .int (15 + (0 + (i : Nat))), .int (10 ^ (6 : Int).toNat)]) (by exists "ev") rfl
  exists "nx"
  refine wss_cons (ws_ifv (c := false) (PWv.t (PWv.to (pwv_or (ca := false) (cb := false) (PTv.to (pt_notB (x := true) (y := true) (pv_callK C gp br (by decide +kernel) (by exists "ea") (by exists "ev") fun Φ Ψ z => ⟨Q19 ++ S19, 16, rfl, ok_QS19, by decide, by decide, by rw [no_QS19]; exact z⟩) (by exists "ev")) rfl) fun _ =>
    pwv_or1 (PTv.to (pt_ne (d1 := .int 29) (pv_callK C gfr br (by decide +kernel) (by exists "ea") (by exists "ev") fun Φ Ψ z => ⟨Q19 ++ S19, 15, rfl, ok_QS19, by decide, by decide, by rw [ref_QS19]; exact z⟩) (by exists "ev") rfl) rfl)) rfl)) (fun h => by cases h) fun _ => wss_nil ?_)
  exists "nx"
  refine wss_cons (ws_ifv (c := false) (PTv.to (pt_notB (x := false) (y := false) (pv_call C gil br (by decide +kernel) (pa_consv (pv_catT (by exists "ev") (PEv.to (d := .tup [.tup [.str "earn", .int 40, .int 1]]) (by exists "ev") rfl) (Nat.le_of_ble_eq_true rfl)) pa_nilv (star_cons rfl)) fun Φ Ψ z => ⟨_, rfl, Nat.le_of_ble_eq_true rfl, z⟩) (by exists "ev")) rfl) (fun h => by cases h) fun _ => wss_nil ?_)
  exists "nx"
  refine wss_cons (ws_ifv (c := false) (PWv.t (PWv.to (pwv_or (ca := false) (cb := false) (PTv.to (pt_ne (d1 := .int 15000000) (pv_callK C gb br (by decide +kernel) (by exists "ea") (by exists "ev") fun Φ Ψ z => ⟨Q19 ++ S19, 14, 1000, rfl, fL, by decide, by decide, by rw [bal_QS19]; exact z⟩) (PEv.to (d := .int (15 * 10 ^ (6 : Int).toNat)) (d' := .int 15000000) (by exists "ev") rfl) rfl) rfl) fun _ =>
    pwv_or1 (pt_neSame (d := .tup [.int 15, .int 1000000]) C (pv_ix (ds := (lapsesF Q19 1).map ePr) (we_frz (wn_listGen C glap bd.r (by decide +kernel) h1 (by decide +kernel) (wa_pv (by exists "ea") (wk_cons (we_pv (by exists "ev") (wk_nil ⟨rfl, (lapsesF Q19 1).map ePr, ⟨Q19, 1, rfl, fQ, rfl⟩, by rw [laps_Q19]; decide, rfl, rfl⟩)))))) pv_int .lst (by rw [laps_Q19]; rfl)) (PEv.to (d := .tup [.int 15, .int (10 ^ (6 : Int).toNat)]) (by exists "ev") rfl) rfl)) rfl)) (fun h => by cases h) fun _ => wss_nil ?_)
  exists "nx"
  refine wss_cons (ws_set C (by exists "sa") (by decide +kernel) (we_cmeth0 C gacc gy br takes_no (by decide +kernel) ⟨[], _, List.Perm.refl _, rfl, rfl, fun q dx pq => ?_⟩))
  exists "nx"
  refine wss_cons (ws_if (WT.mono (Φ := fun c O' => c = false ∧ (tb5 R S T U W).Sublist O') (WW.t (ww_or (wt_cmp op_ne dop_ne (nomark _) (we_methSt C a.cls ge br takes_no (we_pv (by exists "ev") ⟨q, dx, accF 365 [] 0 pq, rfl, List.mem_cons_of_mem _ List.mem_cons_self, rfl, wa_pv (by exists "ea") ⟨Nat.le_of_ble_eq_true rfl, Nat.le_of_ble_eq_true rfl, [(q, .ins Cc dx (accF 365 [] 0 pq)), (pq, .lst [])], tb5 R S T U W, .swap _ _ _, q, dx, pq, 365, [], 0, [], 5, [1, 2, 3], rfl, rfl, Nat.le_of_ble_eq_true rfl, by decide, by decide, by decide, by decide, ok_A19, ?_⟩⟩))))) ?_))
  · rw [show total (playF 365 5 ([] ++ earnL 5 [1, 2, 3])).1 = 6 from a19_5]
    refine we_pv pv_int ⟨true, rfl, false, rfl, if_f (c := false) rfl (ww_or (wt_cmp op_ne dop_ne (nomark _) (we_meth C a.cls gs br takes_no (we_pv (by exists "ev") ⟨q, dx, accF 365 A19 5 pq, rfl, List.mem_cons_self, rfl, wa_pv (by exists "ea") ⟨[(q, .ins Cc dx (accF 365 A19 5 pq)), (pq, .lst [eSt [] 0])], tb5 R S T U W, List.Perm.refl _, q, dx, pq, 365, A19, 5, [eSt [] 0], 369, 6, rfl, rfl, Nat.le_of_ble_eq_true rfl, by decide, by decide, by decide, by decide, by decide, ok_A19, by rw [a19_369]; decide, ok_B19, ?_⟩⟩))))⟩
    rw [b19_369]
    refine we_pv pv_int ⟨true, rfl, false, rfl, if_f (c := false) rfl (ww_or (wt_cmp op_ne dop_ne (nomark _) (we_meth C a.cls gw br takes_no (we_pv (by exists "ev") ⟨q, dx, accF 365 (A19 ++ [(false, 369, 6)]) 369 pq, rfl, List.mem_cons_self, rfl, wa_pv (by exists "ea") ⟨[(q, .ins Cc dx (accF 365 (A19 ++ [(false, 369, 6)]) 369 pq)), (pq, .lst [eSt [] 0, eSt A19 5])], tb5 R S T U W, List.Perm.refl _, q, dx, pq, 365, A19 ++ [(false, 369, 6)], 369, [eSt [] 0, eSt A19 5], 370, rfl, rfl, Nat.le_of_ble_eq_true rfl, by decide, by decide, ok_B19, ?_⟩⟩))))⟩
    rw [b19_370]
    refine we_pv pv_int ⟨true, rfl, false, rfl, if_f (c := false) rfl (ww_or1 (wt_cmp op_ne dop_ne (nomark _) (we_lenO (Cc := Cc) C glen br1 takes_no h2 (by decide +kernel) (we_pv (by exists "ev") ⟨q, dx, accF 365 (A19 ++ [(false, 369, 6)]) 370 pq, rfl, List.mem_cons_self, [(q, .ins Cc dx (accF 365 (A19 ++ [(false, 369, 6)]) 370 pq))], _, List.Perm.refl _, q, dx, pq, 365, A19 ++ [(false, 369, 6)], 370, rfl, List.mem_cons_self, by decide, 4, rfl, by decide, we_pv pv_int ⟨true, rfl, false, rfl, rfl, ?_⟩⟩))))⟩
    exact List.sublist_append_right [(q, OV.ins Cc dx (accF 365 (A19 ++ [(false, 369, 6)]) 370 pq)), (pq, .lst [eSt [] 0, eSt A19 5, eSt (A19 ++ [(false, 369, 6)]) 369])] (tb5 R S T U W)
  rintro c' O' ⟨rfl, hsub⟩
  rw [if_neg Bool.false_ne_true]
  refine wss_nil ?_
  exists "nx"
  have reg : RegOk 1 0 1 1 := ⟨by decide, by decide, by decide, by decide, by decide, by decide, by decide, by decide⟩
  have reg2 : RegOk 1000000 0 1000 1000 := ⟨by decide, by decide, by decide, by decide, by decide, by decide, by decide, by decide⟩
  exact wss_one (ws_ret (we_less (we_pv (d := .bl true) (PEv.to (pv_and (ca := true) (cb := true) (PEv.to (pv_eq (d1 := .int 1000000000000000) (pv_callK C grl br (by decide +kernel) (by exists "ea") (by exists "ev") fun Φ Ψ z => ⟨1, 0, 1, 1000000000000000, 1, rfl, reg, by decide, by decide, fun m h => by rw [full19 h]; exact z⟩) (PEv.to (d := .int (10 ^ (15 : Int).toNat)) (d' := .int 1000000000000000) (by exists "ev") rfl) rfl) rfl) fun _ => pv_one (PEv.to (pv_eq (d1 := .int 1000) (pv_callK C gfl br (by decide +kernel) (by exists "ea") (by exists "ev") fun Φ Ψ z => ⟨1000000, 0, 1000, 1000, rfl, reg2, (fun h => absurd h (by decide)), fun _ m h1 h2 => by rw [first19 h1 h2]; exact z⟩) (by exists "ev") rfl) rfl)) rfl) ⟨tb5 R S T U W, hsub, z⟩)))
def spLawT (R S T U W : Addr) : DSp := fun ds O Φ _ => ∃ cells : List Int, ds = [.lst (cells.map D.int)] ∧ O = tb5 R S T U W ∧ cells.length ≤ 1000 ∧ Φ (.bl true) []
abbrev nLaw : List Str := ["_law_script", "_law_cell", "_law_v"]
theorem sc_law : FnScope nLaw ["_law_script"] (defScope (topS 90)) := ⟨rfl, rfl, rfl, by decide +kernel, rfl, by decide +kernel, by decide +kernel⟩
abbrev gL (cells : List Int) (g1 g2 : Option D) : Sl := [some (.lst (cells.map D.int)), g1, g2]
theorem ok_law {M : Mach} {f : Addr} {fd : FuncData} {k : Nat} {R S T U W : Addr} (F : Fun M.K "law" "law" (topS 90) f fd) (gdeck : GFn M "_law_deck" k spDeck) (gpick : GFn M "_law_pick" k spPick) (gone : GFn M "_law_one_right" k (spOne19 R S T U W)) (gnone : GFn M "_law_none_right" k (spNone19 R S T U W)) (gmany : GFn M "_law_many_right" k (spMany19 R S T U W)) (gmade : GFn M "_law_made_right" k spTrue) :
    FnOk M.P M.w M.K M.mg M.base (L2N.CX M.P M.w) (k + 1) f fd ["_law_script"] (liftSp M.K (spLawT R S T U W)) := by
  refine fn_body (N := nLaw) (vn := nLaw) (gl := ["_law_deck", "_law_pick", "_law_one_right", "_law_none_right", "_law_many_right", "_law_made_right"]) F sc_law (by decide +kernel) (fun ds O Φ Ψ h => ?_) fun X B ds O Φ Ψ bd h => ?_
  · obtain ⟨_, rfl, _⟩ := h
    rfl
  obtain ⟨cells, rfl, rfl, hlen, q⟩ := h
  have C := bd.C
  have br := bd.r
  change WSs _ _ (gL cells none none) _ _ _
  refine wss_cons (ws_for C (wi_v (ds := ((0 :: cells).take 4).map D.int) (wiv_lst (PEv.to (pv_frz (pn_slice (pv_frz (pn_cat (by exists "ev") (by exists "ev") .lst .lst (by rw [List.length_map]; show 1 + cells.length ≤ 1000000; omega))) .lst .none (.some pv_int))) (by rw [show (4 : Int) = ((4 : Nat) : Int) from rfl, cut_to, List.map_take]; rfl))) ⟨fun i G' O' => ∃ g1 g2, G' = gL cells g1 g2 ∧ O' = tb5 R S T U W, ⟨_, _, rfl, rfl⟩,
    fun _ _ _ _ _ p hp => (List.not_mem_nil hp).elim, ?_, ?_⟩))
  · rintro i d G' O' hd ⟨g1, g2, rfl, rfl⟩
    obtain ⟨cell, hx, rfl, hdr⟩ := map_at hd
    exists "t1"
    refine wss_cons (ws_set C (by exists "sa") (by decide +kernel) (we_op op_add dop_I0 (we_pv pv_int (we_call C gpick br takes_no (by decide +kernel) (wa_cons (we_call C gdeck br takes_no (by decide +kernel) (wa_pv (by exists "ea") ⟨[], tb5 R S T U W, List.Perm.refl _, cell, 19, rfl, rfl, by decide, fun p xs dk => wa_pv (d := [.int 999999]) (pa_consv (PEv.to (d := .int (10 ^ (6 : Int).toNat - 1)) (by exists "ev") rfl) pa_nilv (star_cons rfl)) ⟨[(p, _)], tb5 R S T U W, List.Perm.refl _, p, xs, 19, 999999, rfl, rfl, dk, by decide, by decide, by decide, fun s ys s0 s1 dk1 => ⟨1, s, rfl, rfl, trivial, ?_⟩⟩⟩)))))))
    exists "nx"
    obtain ⟨v, hv⟩ : ∃ v, 1 + s = v := ⟨_, rfl⟩
    rw [hv]
    refine wss_forget (O' := tb5 R S T U W) (List.sublist_cons_self _ _) ?_
    exact wss_one (ws_ifv (c := false) (PTv.to (pt_notv (ca := true) (pt_ofv (pv_call C gone br (by decide +kernel) (by exists "ea") fun Φ Ψ z => ⟨v, rfl, rfl, by omega, by omega, z⟩))) rfl) (fun h => by cases h) fun _ => wss_nil ⟨_, _, rfl, rfl⟩)
  · rintro G' O' ⟨g1, g2, rfl, rfl⟩
    exact wss_one (ws_ret (we_less (we_pv (d := .bl true) (PEv.to (pv_and (ca := true) (cb := true) (we_call0 C gnone br takes_no (by decide +kernel) ⟨tb5 R S T U W, [], by rw [List.append_nil], rfl, rfl, rfl, List.append_nil _⟩) fun _ => PEv.to (pv_and (ca := true) (cb := true) (we_call0 C gmany br takes_no (by decide +kernel) ⟨tb5 R S T U W, [], by rw [List.append_nil], rfl, rfl, rfl, List.append_nil _⟩) fun _ => pv_one (we_less (we_call0 C gmade br takes_no (by decide +kernel) ⟨[], tb5 R S T U W, List.Perm.refl _, rfl, rfl, fun O' => ⟨tb5 R S T U W, List.sublist_append_right _ _, rfl, rfl⟩⟩))) rfl) rfl) ⟨[], List.nil_sublist _, q⟩)))
theorem sc_refinit : FnScope ["self", "index"] ["self", "index"] (defScope (clsM (topS 12))) := ⟨rfl, rfl, rfl, by decide +kernel, rfl, by decide +kernel, by decide +kernel⟩
theorem fn_refinit {M : Mach} {f B : Addr} {fd : FuncData} {k : Nat} (F : Fun M.K "__init__" "Refused.__init__" (clsM (topS 12)) f fd) (mB : M.mg "PointError" = some (.ref B)) (T : Hz.VeB M.K B) : FnOk M.P M.w M.K M.mg M.base (L2N.CX M.P M.w) (k + 1) f fd ["self", "index"] (spInit M.K "index") := by
  refine fun_okN F sc_refinit (fun vs H Q E h => by obtain ⟨_, _, _, rfl, _⟩ := h; rfl) fun cdv hcd A outer s H vs Q E hr h => ?_
  refine ⟨_, pss_cons (ps_expr (Hz.pe_clsinit T (by rfl) mB (pa_cons (pv 0) (pa_cons pe_str pa_nil)) (by decide) (by rfl) (by rfl) (by rfl))) (pss_one (ps_ost (pv 0) (pv 1))), ?_⟩
  obtain ⟨a, C, y, rfl, T2, hno, ha, q⟩ := h
  refine ⟨_, rfl, a, C, _, rfl, Nat.le_of_ble_eq_true rfl, T2, ha, ?_⟩
  refine ⟨y, rfl, _, rfl, a, C, rfl, T2, hno, .inl ⟨ha, fun dx h1 h2 => q dx h1 h2⟩⟩
theorem sc_manyinit : FnScope ["self", "limit"] ["self", "limit"] (defScope (clsM (topS 13))) := ⟨rfl, rfl, rfl, by decide +kernel, rfl, by decide +kernel, by decide +kernel⟩
theorem fn_manyinit {M : Mach} {f B : Addr} {fd : FuncData} {k : Nat} (F : Fun M.K "__init__" "TooMany.__init__" (clsM (topS 13)) f fd) (mB : M.mg "PointError" = some (.ref B)) (T : Hz.VeB M.K B) : FnOk M.P M.w M.K M.mg M.base (L2N.CX M.P M.w) (k + 1) f fd ["self", "limit"] (spInit M.K "limit") := by
  refine fun_okN F sc_manyinit (fun vs H Q E h => by obtain ⟨_, _, _, rfl, _⟩ := h; rfl) fun cdv hcd A outer s H vs Q E hr h => ?_
  refine ⟨_, pss_cons (ps_expr (Hz.pe_clsinit T (by rfl) mB (pa_cons (pv 0) (pa_cons pe_str pa_nil)) (by decide) (by rfl) (by rfl) (by rfl))) (pss_one (ps_ost (pv 0) (pv 1))), ?_⟩
  obtain ⟨a, C, y, rfl, T2, hno, ha, q⟩ := h
  refine ⟨_, rfl, a, C, _, rfl, Nat.le_of_ble_eq_true rfl, T2, ha, ?_⟩
  refine ⟨y, rfl, _, rfl, a, C, rfl, T2, hno, .inl ⟨ha, fun dx h1 h2 => q dx h1 h2⟩⟩
theorem excB_ok {K : PySem.W.Frag} {D : Addr} (h : excB K D = true) : ExcC K D := by
  obtain ⟨h1, h⟩ := He.ba h
  obtain ⟨h2, h⟩ := He.ba h
  obtain ⟨h3, h⟩ := He.ba h
  obtain ⟨h4, h⟩ := He.ba h
  obtain ⟨h5, h⟩ := He.ba h
  obtain ⟨h6, h⟩ := He.ba h
  obtain ⟨h7, h8⟩ := He.ba h
  exact ⟨of_decide_eq_true h1, of_decide_eq_true h2, of_decide_eq_true h3, h4, of_decide_eq_true h5, of_decide_eq_true h6, of_decide_eq_true h7, of_decide_eq_true h8⟩
def shortOk (x : Str) : Bool := decide (((Hz.kept xWords (xNames.map fun n => decide (n = x))).map (·.length)).sum ≤ 500) && decide ((Txt.join "" (Hz.kept xWords (xNames.map fun n => decide (n = x)))).length ≤ 500)
theorem gexc_mk {M : Mach} {x : Str} (m : M.mg x = some (.ref (He.ga M.K x))) (e : (He.Fa.exc x).ok M.K = true) : GExc M x := by
  obtain ⟨h1, h⟩ := He.ba e
  obtain ⟨h2, h⟩ := He.ba h
  obtain ⟨h3, h4⟩ := He.ba h
  exact ⟨_, m, h1, h2, of_decide_eq_true h3, of_decide_eq_true h4⟩
theorem code_of {K : PySem.W.Frag} {x qual : Str} {params : Arguments} {body : List Stmt} {scope : Scope} {dvs : List V} {kws : List (Str × V)} {p : Str × Option Str} {fd : FuncData} (D : FunD K x qual params body scope dvs kws (He.fAd K p) fd) : fd.code = .ref (He.cT K p).1 := by
  obtain ⟨a, b, c, d, e, g, h, i, j, l, e1, lk, hcd, _⟩ := D.ex
  subst e1
  obtain ⟨c', ec⟩ := He.codeIn_ref hcd
  rw [show (He.cT K p).1 = c' from He.codeOf_eq lk ec]
  exact ec
def hideT (H : Hp) (T : List (Addr × Str)) : Hp := fun b => if b ∈ T.map (·.1) then none else H b
theorem law_dataT {K : PySem.W.Frag} {sp : DSp} {H : Hp} {a : Addr} (T : List (Addr × Str)) {ns : List Int} (hP : ∀ p ∈ T, H p.1 = some (.tbl #[])) (nd : (T.map (·.1)).Nodup) (hS : SqL K H a (ns.map V.int)) (h : sp [.lst (ns.map D.int)] (T.map fun p => (p.1, .tab p.2)) (fun d _ => d = .bl true) fun _ _ => False) : liftSp K sp [.ref a] H (fun v _ => v = .bl true) fun _ _ _ => False := by
  have at_ : ∀ b, b ∉ T.map (·.1) → hideT H T b = H b := fun b hb => if_neg hb
  have atP : ∀ b, b ∈ T.map (·.1) → hideT H T b = none := fun b hb => if_pos hb
  have tb : ∀ b, b ∈ T.map (·.1) → H b = some (.tbl #[]) := fun b hb => by
    obtain ⟨p, hp, rfl⟩ := List.mem_map.mp hb
    exact hP p hp
  have ek : keys (T.map fun p => (p.1, OV.tab p.2)) = T.map (·.1) := by
    unfold keys
    rw [List.map_map]
    rfl
  have S : Sat K ⟨hideT H T, H, keys (T.map fun p => (p.1, OV.tab p.2))⟩ [] (T.map fun p => (p.1, .tab p.2)) (hideT H T) [] H := ⟨rfl, fun i d e => by simp at e, fun b o e => by
    by_cases hb : b ∈ T.map (·.1)
    · rw [atP b hb] at e; cases e
    · rw [at_ b hb] at e; exact e, by rw [ek]; exact nd, fun p hp => by
    obtain ⟨t, ht, rfl⟩ := List.mem_map.mp hp
    refine ⟨atP _ (List.mem_map_of_mem (f := fun p : Addr × Str => p.1) ht), #[], hP t ht, True.intro, fun pos cv hc => ?_⟩
    have z : codeAmong pos [] = some cv := hc
    simp [codeAmong] at z, Same.refl _, fun b o e1 e2 e3 => by
    have hb : b ∉ T.map (·.1) := fun z => e3 (by show b ∈ keys _; rw [ek]; exact z)
    have e4 : hideT H T b = none := e2
    rw [at_ b hb, show H b = some o from e1] at e4
    cases e4⟩
  have hS' : SqL K (hideT H T) a (ns.map V.int) := by
    rcases hS with (z | ⟨o, z⟩) | z
    · exact .inl (.inl ((at_ a (fun e => by rw [tb a e] at z; cases z)).trans z))
    · exact .inl (.inr ⟨o, (at_ a (fun e => by rw [tb a e] at z; cases z)).trans z⟩)
    · exact .inr z
  refine ⟨_, _, [.lst (ns.map D.int)], _, _, S, .cons (.lst hS' (ints_reps ns)) .nil, h, fun v F' H' d O' G σ _ r e => ?_, fun cls dd F' H' x O' G σ _ _ z => z⟩
  rw [show d = .bl true from e] at r
  cases r
  rfl
theorem oexB_ok {K : PySem.W.Frag} {C : Addr} (h : oexB K C = true) : OexC K C := by
  obtain ⟨q, h⟩ := He.ba h
  obtain ⟨h1, h⟩ := He.ba h
  obtain ⟨h2, h⟩ := He.ba h
  obtain ⟨h3, h4⟩ := He.ba h
  refine ⟨?_, of_decide_eq_true h1, of_decide_eq_true h2, of_decide_eq_true h3, h4⟩
  split at q
  · rename_i dd cd sl ho
    split at q
    · rename_i C' bm k0 k1 k2 k3 n k5 hm hs
      simp only [Bool.and_eq_true, beq_iff_eq, Bool.not_eq_true'] at q
      obtain ⟨rfl, rfl, hdel, hdct, hr⟩ := q
      obtain ⟨nm, bs, mro, ns, qn, hd, sn, sub, ab, col, del⟩ := cd
      dsimp only at hm hdel hdct
      subst hm hdel hdct
      have hsl : sl = #[k0, k1, k2, k3, some (.builtin "ValueError.__new__"), k5] := by
        obtain ⟨l⟩ := sl
        simp only at hs
        rw [hs]
      subst hsl
      exact ⟨nm, qn, ns, bs, bm, sn, sub, ab, col, dd, k0, k1, k2, k3, k5, ho, hr⟩
    · cases q
  · cases q
theorem veB_ok {K : PySem.W.Frag} {B : Addr} (h : veB K B = true) : Hz.VeB K B := by
  obtain ⟨h1, h⟩ := He.ba h
  obtain ⟨h2, h3⟩ := He.ba h
  refine ⟨of_decide_eq_true h1, h2, ?_⟩
  split at h3
  · rename_i v e
    rw [e, of_decide_eq_true h3]
  · cases h3
/-- all that is asked of the class x -/
theorem namedP_mk {M : Mach} {x : Str} (ex : excN M.K x = true) (gl : ∀ n ∈ ("PointError" : Str) :: xNames, M.mg n = some (.ref (He.ga M.K n))) (hx : x ∈ xNames) (sh : shortOk x = true) : ∀ c, M.mg x = some (.ref c) → NamedP M c x := fun c hc => by
  obtain ⟨h1, h⟩ := He.ba ex
  obtain ⟨h2, h⟩ := He.ba h
  obtain ⟨h3, h4⟩ := He.ba h
  obtain ⟨s1, s2⟩ := He.ba sh
  have e : c = He.ga M.K x := by
    have w := hc.symm.trans (gl x (List.mem_cons_of_mem _ hx))
    injection w with w
    injection w with w
  subst e
  exact ⟨⟨excB_ok h1, fun n hn => ⟨_, gl n (List.mem_cons_of_mem _ hn), of_decide_eq_true (List.all_eq_true.mp h2 n hn)⟩, of_decide_eq_true h3, of_decide_eq_true s1, of_decide_eq_true s2⟩, ⟨_, gl _ (by decide), of_decide_eq_true h4⟩⟩
theorem short_all : ∀ x ∈ xNames, shortOk x = true := by decide +kernel
/-- of an own class with one attribute, and of PointError -/
theorem ownN_x {M : Mach} {x f : Str} (ex : ownN M.K x f = true) (m : M.mg x = some (.ref (He.ga M.K x))) : ∀ c, M.mg x = some (.ref c) → XfC M.K c ∧ PySem.W.findIn M.K (.ref c) f = some none := fun c hc => by
  obtain ⟨h1, h⟩ := He.ba ex
  obtain ⟨h2, h⟩ := He.ba h
  have e : c = He.ga M.K x := by
    have w := hc.symm.trans m
    injection w with w
    injection w with w
  subst e
  exact ⟨xfB_ok h1, of_decide_eq_true h2⟩
theorem ownN_g {M : Mach} {x f : Str} {fd : FuncData} {k : Nat} (ex : ownN M.K x f = true) (m : M.mg x = some (.ref (He.ga M.K x))) (F : Hz.VeB M.K (He.ga M.K "PointError") → FnOk M.P M.w M.K M.mg M.base (L2N.CX M.P M.w) (k + 1) (He.fAd M.K (x, some "__init__")) fd ["self", f] (spInit M.K f)) (b : Binds M.K fd ["self", f] []) : GExcO M x f (k + 1) := by
  obtain ⟨h1, h⟩ := He.ba ex
  obtain ⟨h2, h⟩ := He.ba h
  obtain ⟨h3, h⟩ := He.ba h
  obtain ⟨h4, h⟩ := He.ba h
  obtain ⟨h5, h6⟩ := He.ba h
  exact ⟨_, _, fd, m, oexB_ok h3, of_decide_eq_true h4, of_decide_eq_true h5, of_decide_eq_true h2, F (veB_ok h6), b⟩
theorem bs_earn (kV doc pm : Value) (an : Option Addr) (cdv ct : Value) : bindS (PySem.W.fnOf "earn" "Account.earn" (defArgs (clsAt (topS 49) 7)) (defBody (clsAt (topS 49) 7)) (defScope (clsAt (topS 49) 7)) .none kV doc pm an cdv ct) 2 ["self", "time"] [] "amounts" := fun us ws rest h1 h2 => match us, ws, rest, h1, h2 with
  | [_, _], [], [], _, _ => rfl
  | [_, _], [], r :: rs, _, _ => rfl
/-- the class Account -/
theorem acc_con {K : PySem.W.Frag} (h : accB K = true) : ∃ u, Con K (He.ga K "Account") "MOST" (.int 30) u := by
  obtain ⟨h1, _⟩ := He.ba h
  exact He.conB_ok (v := .int 30) h1
theorem acc_cmet {K : PySem.W.Frag} (h : accB K = true) : ClX.CMet K (He.ga K "Account") (.type "type") "yearly" (He.ma K (He.ga K "Account") "yearly") (He5.wf K (He.ga K "Account") "classmethod" "yearly") := by
  obtain ⟨_, h⟩ := He.ba h
  obtain ⟨h2, h⟩ := He.ba h
  obtain ⟨h3, _⟩ := He.ba h
  exact He5.cmet_of h2 h3
theorem acc_cread {K : PySem.W.Frag} (h : accB K = true) : ClX.CRead K (He.ga K "Account") (.type "type") := by
  obtain ⟨_, h⟩ := He.ba h
  obtain ⟨_, h⟩ := He.ba h
  obtain ⟨_, h4⟩ := He.ba h
  refine ⟨h4, ?_⟩
  unfold PySem.W.readsIn at h4
  obtain ⟨h, _⟩ := He.ba h4
  obtain ⟨h, _⟩ := He.ba h
  obtain ⟨h, h3⟩ := He.ba h
  obtain ⟨_, h2⟩ := He.ba h
  unfold PySem.W.specialIn
  rw [beq_iff_eq.mp h2, Option.bind_some]
  exact beq_iff_eq.mp h3
theorem acc_len {K : PySem.W.Frag} (c : (He.Fa.meth "Account" "__len__").ok K = true) : LenC K (He.ga K "Account") (He.ma K (He.ga K "Account") "__len__") := by
  have h := He.meth_ok c
  exact ⟨h.at_, beq_iff_eq.mp h.fn⟩
theorem defW {fw : List He5.DefA} {K : PySem.W.Frag} (e : fw.map (fun d => He5.fnA K (d.at_ K)) = fw.map He5.DefA.val) (ok : (fw.all fun d => d.ok K) = true) (i : Nat) {d : He5.DefA} (h : fw[i]? = some d := by rfl) : ∃ fd, FunD K d.name d.qual d.params d.body d.scope (d.dvs K) (d.kws K) (d.at_ K) fd := by
  have e2 : (fw.map fun d => He5.fnA K (d.at_ K))[i]? = (fw.map He5.DefA.val)[i]? := by rw [e]
  rw [List.getElem?_map, List.getElem?_map, h] at e2
  exact He5.DefA.funD (Option.some.inj e2) (List.all_eq_true.mp ok d (List.mem_of_getElem? h))
section
variable {K : PySem.W.Frag} {x qual : Str} {params : Arguments} {body : List Stmt} {scope : Scope} {kws : List (Str × V)} {f : Addr} {fd : FuncData} {ps ks : List Str}
/-- a def without defaults, its body taken from its statement -/
theorem fun_st {st : Stmt} (F : FunD K x qual (defArgs st) (defBody st) (defScope st) [] kws f fd) : Fun K x qual st f fd := by
  obtain ⟨a, b, c, d, e, g, h, i, j, l, e1, e2, e3, e4, _⟩ := F.ex
  rcases e4 with ⟨_, z⟩ | ⟨z, _⟩
  · cases z
    exact ⟨⟨a, b, d, e, g, h, i, j, l, e1, e2, e3⟩, F.kp⟩
  · exact (z rfl).elim
/-- .. called with its last parameters by keyword -/
theorem kb_st (n : Nat) (hn : ps.length = n + ks.length) (h0 : 0 < ps.length) (F : FunD K x qual params body scope [] kws f fd)
    (h : ∀ (kV doc pm : Value) (an : Option Addr) (cdv ct : Value) (us ws : List Value), us.length = n → ws.length = ks.length → bindArgs (PySem.W.fnOf x qual params body scope .none kV doc pm an cdv ct) ⟨us, ks.zip ws⟩ = pure (ps.zip (us ++ ws))) :
    KBinds K fd ps ks (kwJoin ks) (kwJoin ks) := by
  obtain ⟨a, b, c, d, e, g, i, j, l, m, e1, e2, e3, e4, _⟩ := F.ex
  rcases e4 with ⟨_, z⟩ | ⟨z, _⟩
  · cases z
    subst e1
    exact kbinds_mk n hn h0 fun us ws h1 h2 => h d e g i j l us ws h1 h2
  · exact (z rfl).elim
end
theorem law_askT {R S T U W : Addr} (ns : List Int) (hl : ns.length ≤ 63) (hb : ∀ z ∈ ns, Builtin.Int.intBits z ≤ 1048576) : spLawT R S T U W [.lst (ns.map D.int)] [(R, .tab qBest), (S, .tab qFit), (T, .tab qRange), (U, .tab qAmount), (W, .tab qEarning)] (fun d _ => d = .bl true) fun _ _ => False := ⟨ns, rfl, rfl, by omega, rfl⟩
theorem hdFacts {P : Program} {w : World} {K : PySem.W.Frag} {h : Heap} {mg : Str → Option Value} {f : Addr} (X : K.In h) (G : h.Ns mainGlobals mg) (hfa : mg ("law" : Str) = some (.ref f)) (c : He.SaysD hdFa hdFn K) (hex : hdEx K = true) (cw : hdFw.map (fun d => He5.fnA K (d.at_ K)) = hdFw.map He5.DefA.val) (okw : (hdFw.all fun d => d.ok K) = true) :
    ∃ fd : FuncData, (∀ (s : Shared) (v : Value), BindsTo s fd ⟨[v], []⟩ [("_law_script", v)]) ∧ ∀ base : Heap, K.In base → base.Ns mainGlobals mg → (∀ p ∈ hdTf, LamX.TabB base mg (He.cT K p).1 (He.cT K p).2) → FnOk P w K mg base (L2N.CX P w) 26 f fd ["_law_script"] (liftSp K (spLawT (He.cT K ("best_range", none)).2 (He.cT K ("fit_life", none)).2 (He.cT K ("range_for", none)).2 (He.cT K ("fit_amount", none)).2 (He.cT K ("fit_earning", none)).2)) := by
  obtain ⟨d_law, D_law⟩ := c.def_ 67 (d := dd_law) rfl
  have e : f = He.fAd K ("law", none) := by
    have z := hfa.symm.trans (He.glo_ok X G (c.fact 120 (f := .glo "law") rfl))
    injection z with z
    injection z with z
  subst e
  have b_law := FunD.bindsA (ps := ["_law_script"]) D_law fun _ _ _ _ _ _ us hl => match us, hl with | [_], _ => rfl
  refine ⟨d_law, fun s v => b_law s [v] rfl, fun base _ _ hTB => ?_⟩
  let M : Mach := ⟨P, w, K, mg, base⟩
  have hEx : exOk19 K = true := (He.ba hex).1
  have hN := (He.ba hEx).1
  have hR := (He.ba (He.ba hEx).2).1
  have hMn := (He.ba (He.ba (He.ba hEx).2).2).1
  have hA := (He.ba (He.ba (He.ba hEx).2).2).2
  obtain ⟨d_lapse, D_lapse⟩ := c.def_ 0 (d := dd_lapse) rfl
  have m_lapse : M.mg "lapse" = some (.ref (He.fAd K ("lapse", none))) := He.glo_ok X G (c.fact 0 (f := .glo "lapse") rfl)
  have F_lapse : Fun M.K "lapse" "lapse" (topS 26) _ d_lapse := fun_st D_lapse
  have B_lapse : Binds M.K d_lapse ["lots", "lapsed", "life", "time"] [] := FunD.bindsN D_lapse fun _ _ _ _ _ _ us hl => match us, hl with | [_, _, _, _], _ => rfl
  have G_lapse : GFn M "lapse" 1 spLapse := gfn_mk m_lapse F_lapse B_lapse (ok_lapse (k := 0) F_lapse )
  obtain ⟨d_take, D_take⟩ := c.def_ 1 (d := dd_take) rfl
  have m_take : M.mg "take" = some (.ref (He.fAd K ("take", none))) := He.glo_ok X G (c.fact 1 (f := .glo "take") rfl)
  have F_take : Fun M.K "take" "take" (topS 27) _ d_take := fun_st D_take
  have B_take : Binds M.K d_take ["lots", "amount"] [] := FunD.bindsN D_take fun _ _ _ _ _ _ us hl => match us, hl with | [_, _], _ => rfl
  have G_take : GFn M "take" 1 spTake := gfn_mk m_take F_take B_take (ok_take (k := 0) F_take (He.free_ok X G (c.fact 2 (f := .free "min") rfl)))
  obtain ⟨d_play, D_play⟩ := c.def_ 2 (d := dd_play) rfl
  have m_play : M.mg "play" = some (.ref (He.fAd K ("play", none))) := He.glo_ok X G (c.fact 3 (f := .glo "play") rfl)
  have F_play : Fun M.K "play" "play" (topS 28) _ d_play := fun_st D_play
  have B_play : Binds M.K d_play ["log", "life", "until"] [] := FunD.bindsN D_play fun _ _ _ _ _ _ us hl => match us, hl with | [_, _, _], _ => rfl
  have G_play : GFn M "play" 2 spPlay := gfn_mk m_play F_play B_play (ok_play (k := 1) F_play (He.free_ok X G (c.fact 4 (f := .free "enumerate") rfl)) (He.free_ok X G (c.fact 5 (f := .free "sum") rfl)) (He.free_ok X G (c.fact 6 (f := .free "tuple") rfl)) (G_lapse.mono (by decide)) (G_take.mono (by decide)))
  obtain ⟨d_is_from, D_is_from⟩ := c.def_ 3 (d := dd_is_from) rfl
  have m_is_from : M.mg "is_from" = some (.ref (He.fAd K ("is_from", none))) := He.glo_ok X G (c.fact 7 (f := .glo "is_from") rfl)
  have F_is_from : Fun M.K "is_from" "is_from" (topS 20) _ d_is_from := fun_st D_is_from
  have B_is_from : Binds M.K d_is_from ["value", "low", "high"] [] := FunD.bindsN D_is_from fun _ _ _ _ _ _ us hl => match us, hl with | [_, _, _], _ => rfl
  have G_is_from : GFn M "is_from" 1 spIsFrom := gfn_mk m_is_from F_is_from B_is_from (ok_isfrom (k := 0) F_is_from (He.free_ok X G (c.fact 8 (f := .free "isinstance") rfl)) (He.free_ok X G (c.fact 9 (f := .free "int") rfl)) (He.free_ok X G (c.fact 10 (f := .free "bool") rfl)))
  obtain ⟨d_is_event, D_is_event⟩ := c.def_ 4 (d := dd_is_event) rfl
  have m_is_event : M.mg "is_event" = some (.ref (He.fAd K ("is_event", none))) := He.glo_ok X G (c.fact 11 (f := .glo "is_event") rfl)
  have F_is_event : Fun M.K "is_event" "is_event" (topS 21) _ d_is_event := fun_st D_is_event
  have B_is_event : Binds M.K d_is_event ["value"] [] := FunD.bindsN D_is_event fun _ _ _ _ _ _ us hl => match us, hl with | [_], _ => rfl
  have G_is_event : GFn M "is_event" 2 spIsEvent := gfn_mk m_is_event F_is_event B_is_event (ok_isevent (k := 1) F_is_event (He.free_ok X G (c.fact 8 (f := .free "isinstance") rfl)) (He.free_ok X G (c.fact 6 (f := .free "tuple") rfl)) (He.free_ok X G (c.fact 12 (f := .free "str") rfl)) (He.free_ok X G (c.fact 13 (f := .free "len") rfl)) (He.int_ok X G (c.fact 14 (f := .int "LAST_TIME" 10000) rfl)) (He.int_ok X G (c.fact 15 (f := .int "LARGEST" 1000000) rfl)) (G_is_from.mono (by decide)))
  obtain ⟨d_is_log, D_is_log⟩ := c.def_ 5 (d := dd_is_log) rfl
  have m_is_log : M.mg "is_log" = some (.ref (He.fAd K ("is_log", none))) := He.glo_ok X G (c.fact 16 (f := .glo "is_log") rfl)
  have F_is_log : Fun M.K "is_log" "is_log" (topS 22) _ d_is_log := fun_st D_is_log
  have B_is_log : Binds M.K d_is_log ["value"] [] := FunD.bindsN D_is_log fun _ _ _ _ _ _ us hl => match us, hl with | [_], _ => rfl
  have G_is_log_spIsLog : GFn M "is_log" 3 spIsLog := gfn_mk m_is_log F_is_log B_is_log (ok_islog (k := 2) F_is_log (He.free_ok X G (c.fact 8 (f := .free "isinstance") rfl)) (He.free_ok X G (c.fact 6 (f := .free "tuple") rfl)) (He.free_ok X G (c.fact 17 (f := .free "all") rfl)) (He.free_ok X G (c.fact 13 (f := .free "len") rfl)) (He.free_ok X G (c.fact 18 (f := .free "zip") rfl)) (He.int_ok X G (c.fact 19 (f := .int "MOST_EVENTS" 30) rfl)) (G_is_event.mono (by decide)))
  obtain ⟨d_need_log, D_need_log⟩ := c.def_ 6 (d := dd_need_log) rfl
  have m_need_log : M.mg "need_log" = some (.ref (He.fAd K ("need_log", none))) := He.glo_ok X G (c.fact 20 (f := .glo "need_log") rfl)
  have F_need_log : Fun M.K "need_log" "need_log" (topS 23) _ d_need_log := fun_st D_need_log
  have B_need_log : Binds M.K d_need_log ["log"] [] := FunD.bindsN D_need_log fun _ _ _ _ _ _ us hl => match us, hl with | [_], _ => rfl
  have G_need_log : GFn M "need_log" 4 spNeedLog := gfn_mk m_need_log F_need_log B_need_log (ok_needlog (k := 3) F_need_log (G_is_log_spIsLog.mono (by decide)))
  obtain ⟨d_need_life, D_need_life⟩ := c.def_ 7 (d := dd_need_life) rfl
  have m_need_life : M.mg "need_life" = some (.ref (He.fAd K ("need_life", none))) := He.glo_ok X G (c.fact 21 (f := .glo "need_life") rfl)
  have F_need_life : Fun M.K "need_life" "need_life" (topS 24) _ d_need_life := fun_st D_need_life
  have B_need_life : Binds M.K d_need_life ["life"] [] := FunD.bindsN D_need_life fun _ _ _ _ _ _ us hl => match us, hl with | [_], _ => rfl
  have G_need_life : GFn M "need_life" 2 spNeedLife := gfn_mk m_need_life F_need_life B_need_life (ok_needlife (k := 1) F_need_life (G_is_from.mono (by decide)) (He.int_ok X G (c.fact 22 (f := .int "LONGEST_LIFE" 1000) rfl)))
  obtain ⟨d_need_moment, D_need_moment⟩ := c.def_ 8 (d := dd_need_moment) rfl
  have m_need_moment : M.mg "need_moment" = some (.ref (He.fAd K ("need_moment", none))) := He.glo_ok X G (c.fact 23 (f := .glo "need_moment") rfl)
  have F_need_moment : Fun M.K "need_moment" "need_moment" (topS 25) _ d_need_moment := fun_st D_need_moment
  have B_need_moment : Binds M.K d_need_moment ["time"] [] := FunD.bindsN D_need_moment fun _ _ _ _ _ _ us hl => match us, hl with | [_], _ => rfl
  have G_need_moment : GFn M "need_moment" 2 spNeedMoment := gfn_mk m_need_moment F_need_moment B_need_moment (ok_needmoment (k := 1) F_need_moment (G_is_from.mono (by decide)) (He.int_ok X G (c.fact 24 (f := .int "LAST_MOMENT" 12000) rfl)))
  obtain ⟨d_refused_at, D_refused_at⟩ := c.def_ 9 (d := dd_refused_at) rfl
  have m_refused_at : M.mg "refused_at" = some (.ref (He.fAd K ("refused_at", none))) := He.glo_ok X G (c.fact 25 (f := .glo "refused_at") rfl)
  have F_refused_at : Fun M.K "refused_at" "refused_at" (topS 29) _ d_refused_at := fun_st D_refused_at
  have B_refused_at : Binds M.K d_refused_at ["log", "life"] [] := FunD.bindsN D_refused_at fun _ _ _ _ _ _ us hl => match us, hl with | [_, _], _ => rfl
  have G_refused_at : GFn M "refused_at" 3 spRefusedAt := gfn_mk m_refused_at F_refused_at B_refused_at (ok_refusedat (k := 2) F_refused_at (G_play.mono (by decide)) (He.int_ok X G (c.fact 14 (f := .int "LAST_TIME" 10000) rfl)))
  obtain ⟨d_need_possible, D_need_possible⟩ := c.def_ 10 (d := dd_need_possible) rfl
  have m_need_possible : M.mg "need_possible" = some (.ref (He.fAd K ("need_possible", none))) := He.glo_ok X G (c.fact 26 (f := .glo "need_possible") rfl)
  have F_need_possible : Fun M.K "need_possible" "need_possible" (topS 30) _ d_need_possible := fun_st D_need_possible
  have B_need_possible : Binds M.K d_need_possible ["log", "life"] [] := FunD.bindsN D_need_possible fun _ _ _ _ _ _ us hl => match us, hl with | [_, _], _ => rfl
  have G_need_possible : GFn M "need_possible" 5 spNeedPossible := gfn_mk m_need_possible F_need_possible B_need_possible (ok_needpossible (k := 4) F_need_possible (G_need_log.mono (by decide)) (G_need_life.mono (by decide)) (G_refused_at.mono (by decide)))
  obtain ⟨d_need_asked, D_need_asked⟩ := c.def_ 11 (d := dd_need_asked) rfl
  have m_need_asked : M.mg "need_asked" = some (.ref (He.fAd K ("need_asked", none))) := He.glo_ok X G (c.fact 27 (f := .glo "need_asked") rfl)
  have F_need_asked : Fun M.K "need_asked" "need_asked" (topS 34) _ d_need_asked := fun_st D_need_asked
  have B_need_asked : Binds M.K d_need_asked ["log", "time", "life"] [] := FunD.bindsN D_need_asked fun _ _ _ _ _ _ us hl => match us, hl with | [_, _, _], _ => rfl
  have G_need_asked : GFn M "need_asked" 6 spNeedAsked := gfn_mk m_need_asked F_need_asked B_need_asked (ok_needasked (k := 5) F_need_asked (G_need_possible.mono (by decide)) (G_need_moment.mono (by decide)))
  obtain ⟨d_merged, D_merged⟩ := c.def_ 12 (d := dd_merged) rfl
  have m_merged : M.mg "merged" = some (.ref (He.fAd K ("merged", none))) := He.glo_ok X G (c.fact 28 (f := .glo "merged") rfl)
  have F_merged : Fun M.K "merged" "merged" (topS 35) _ d_merged := fun_st D_merged
  have B_merged : Binds M.K d_merged ["rows"] [] := FunD.bindsN D_merged fun _ _ _ _ _ _ us hl => match us, hl with | [_], _ => rfl
  have G_merged : GFn M "merged" 1 spMerged := gfn_mk m_merged F_merged B_merged (ok_merged (k := 0) F_merged )
  obtain ⟨d_lapsed_by, D_lapsed_by⟩ := c.def_ 13 (d := dd_lapsed_by) rfl
  have m_lapsed_by : M.mg "lapsed_by" = some (.ref (He.fAd K ("lapsed_by", none))) := He.glo_ok X G (c.fact 29 (f := .glo "lapsed_by") rfl)
  have F_lapsed_by : Fun M.K "lapsed_by" "lapsed_by" (topS 36) _ d_lapsed_by := fun_st D_lapsed_by
  have B_lapsed_by : Binds M.K d_lapsed_by ["log", "life", "time"] [] := FunD.bindsN D_lapsed_by fun _ _ _ _ _ _ us hl => match us, hl with | [_, _, _], _ => rfl
  have G_lapsed_by : GFn M "lapsed_by" 3 spGone := gfn_mk m_lapsed_by F_lapsed_by B_lapsed_by (ok_lapsedby (k := 2) F_lapsed_by (He.free_ok X G (c.fact 5 (f := .free "sum") rfl)) (G_play.mono (by decide)))
  obtain ⟨d_balance_of, D_balance_of⟩ := c.def_ 14 (d := dd_balance_of) rfl
  have m_balance_of : M.mg "balance_of" = some (.ref (He.fAd K ("balance_of", none))) := He.glo_ok X G (c.fact 30 (f := .glo "balance_of") rfl)
  have F_balance_of : Fun M.K "balance_of" "balance_of" (topS 37) _ d_balance_of := fun_st D_balance_of
  have B_balance_of : Binds M.K d_balance_of ["log", "life", "time"] [] := FunD.bindsN D_balance_of fun _ _ _ _ _ _ us hl => match us, hl with | [_, _, _], _ => rfl
  have G_balance_of : GFn M "balance_of" 3 spThere := gfn_mk m_balance_of F_balance_of B_balance_of (ok_balanceof (k := 2) F_balance_of (He.free_ok X G (c.fact 5 (f := .free "sum") rfl)) (G_play.mono (by decide)))
  obtain ⟨d_all_lapses, D_all_lapses⟩ := c.def_ 15 (d := dd_all_lapses) rfl
  have m_all_lapses : M.mg "all_lapses" = some (.ref (He.fAd K ("all_lapses", none))) := He.glo_ok X G (c.fact 31 (f := .glo "all_lapses") rfl)
  have F_all_lapses : Fun M.K "all_lapses" "all_lapses" (topS 38) _ d_all_lapses := fun_st D_all_lapses
  have B_all_lapses : Binds M.K d_all_lapses ["log", "life"] [] := FunD.bindsN D_all_lapses fun _ _ _ _ _ _ us hl => match us, hl with | [_, _], _ => rfl
  have G_all_lapses_spLapses : GFn M "all_lapses" 3 spLapses := gfn_mk m_all_lapses F_all_lapses B_all_lapses (ok_alllapses (k := 2) F_all_lapses (He.int_ok X G (c.fact 24 (f := .int "LAST_MOMENT" 12000) rfl)) (G_play.mono (by decide)) (G_merged.mono (by decide)))
  obtain ⟨d_lapsed, D_lapsed⟩ := c.def_ 16 (d := dd_lapsed) rfl
  have m_lapsed : M.mg "lapsed" = some (.ref (He.fAd K ("lapsed", none))) := He.glo_ok X G (c.fact 32 (f := .glo "lapsed") rfl)
  have F_lapsed : Fun M.K "lapsed" "lapsed" (topS 40) _ d_lapsed := fun_st D_lapsed
  have B_lapsed : KBinds M.K d_lapsed ["log", "time", "life"] ["life"] _ _ := kb_st 2 rfl (by decide) D_lapsed fun _ _ _ _ _ _ us ws h1 h2 => match us, ws, h1, h2 with | [_, _], [_], _, _ => rfl
  have G_lapsed : GFnK M "lapsed" ["life"] 7 spApi_lapsed := gfnK_mk m_lapsed F_lapsed B_lapsed (ok_lapsed (k := 6) F_lapsed (G_need_asked.mono (by decide)) (G_lapsed_by.mono (by decide)))
  obtain ⟨d_balance, D_balance⟩ := c.def_ 17 (d := dd_balance) rfl
  have m_balance : M.mg "balance" = some (.ref (He.fAd K ("balance", none))) := He.glo_ok X G (c.fact 33 (f := .glo "balance") rfl)
  have F_balance : Fun M.K "balance" "balance" (topS 39) _ d_balance := fun_st D_balance
  have B_balance : KBinds M.K d_balance ["log", "time", "life"] ["life"] _ _ := kb_st 2 rfl (by decide) D_balance fun _ _ _ _ _ _ us ws h1 h2 => match us, ws, h1, h2 with | [_, _], [_], _, _ => rfl
  have G_balance : GFnK M "balance" ["life"] 7 spApi_balance := gfnK_mk m_balance F_balance B_balance (ok_balance (k := 6) F_balance (G_need_asked.mono (by decide)) (G_balance_of.mono (by decide)))
  obtain ⟨d_worst_moment, D_worst_moment⟩ := c.def_ 18 (d := dd_worst_moment) rfl
  have m_worst_moment : M.mg "worst_moment" = some (.ref (He.fAd K ("worst_moment", none))) := He.glo_ok X G (c.fact 34 (f := .glo "worst_moment") rfl)
  have F_worst_moment : Fun M.K "worst_moment" "worst_moment" (topS 43) _ d_worst_moment := fun_st D_worst_moment
  have B_worst_moment : KBinds M.K d_worst_moment ["log", "time", "life"] ["life"] _ _ := kb_st 2 rfl (by decide) D_worst_moment fun _ _ _ _ _ _ us ws h1 h2 => match us, ws, h1, h2 with | [_, _], [_], _, _ => rfl
  have G_worst_moment : GFnK M "worst_moment" ["life"] 7 spWorst := gfnK_mk m_worst_moment F_worst_moment B_worst_moment (ok_worst (k := 6) F_worst_moment (G_need_asked.mono (by decide)) (G_all_lapses_spLapses.mono (by decide)))
  obtain ⟨d__law_deck, D__law_deck⟩ := c.def_ 19 (d := dd__law_deck) rfl
  have m__law_deck : M.mg "_law_deck" = some (.ref (He.fAd K ("_law_deck", none))) := He.glo_ok X G (c.fact 35 (f := .glo "_law_deck") rfl)
  have F__law_deck : Fun M.K "_law_deck" "_law_deck" (topS 82) _ d__law_deck := fun_st D__law_deck
  have B__law_deck : Binds M.K d__law_deck ["_law_cell", "_law_turn"] [] := FunD.bindsN D__law_deck fun _ _ _ _ _ _ us hl => match us, hl with | [_, _], _ => rfl
  have G__law_deck : GFn M "_law_deck" 1 spDeck := gfn_mk m__law_deck F__law_deck B__law_deck (ok_deck (k := 0) F__law_deck )
  obtain ⟨d__law_pick, D__law_pick⟩ := c.def_ 20 (d := dd__law_pick) rfl
  have m__law_pick : M.mg "_law_pick" = some (.ref (He.fAd K ("_law_pick", none))) := He.glo_ok X G (c.fact 36 (f := .glo "_law_pick") rfl)
  have F__law_pick : Fun M.K "_law_pick" "_law_pick" (topS 83) _ d__law_pick := fun_st D__law_pick
  have B__law_pick : Binds M.K d__law_pick ["_law_deck_here", "_law_limit"] [] := FunD.bindsN D__law_pick fun _ _ _ _ _ _ us hl => match us, hl with | [_, _], _ => rfl
  have G__law_pick : GFn M "_law_pick" 1 spPick := gfn_mk m__law_pick F__law_pick B__law_pick (ok_pick (k := 0) F__law_pick )
  obtain ⟨d_with_more, D_with_more⟩ := c.def_ 21 (d := dd_with_more) rfl
  have m_with_more : M.mg "with_more" = some (.ref (He.fAd K ("with_more", none))) := He.glo_ok X G (c.fact 37 (f := .glo "with_more") rfl)
  have F_with_more : Fun M.K "with_more" "with_more" (topS 51) _ d_with_more := fun_st D_with_more
  have B_with_more : Binds M.K d_with_more ["log", "index", "more"] [] := FunD.bindsN D_with_more fun _ _ _ _ _ _ us hl => match us, hl with | [_, _, _], _ => rfl
  have G_with_more : GFn M "with_more" 1 spWithMore := gfn_mk m_with_more F_with_more B_with_more (ok_withmore (k := 0) F_with_more )
  have G_all_lapses_spLapsesW : GFn M "all_lapses" 3 spLapsesW := gfn_mk m_all_lapses F_all_lapses B_all_lapses (ok_alllapsesw (k := 2) F_all_lapses (He.int_ok X G (c.fact 24 (f := .int "LAST_MOMENT" 12000) rfl)) (G_play.mono (by decide)) (G_merged.mono (by decide)))
  obtain ⟨d_difference, D_difference⟩ := c.def_ 22 (d := dd_difference) rfl
  have m_difference : M.mg "difference" = some (.ref (He.fAd K ("difference", none))) := He.glo_ok X G (c.fact 38 (f := .glo "difference") rfl)
  have F_difference : Fun M.K "difference" "difference" (topS 53) _ d_difference := fun_st D_difference
  have B_difference : Binds M.K d_difference ["one", "other"] [] := FunD.bindsN D_difference fun _ _ _ _ _ _ us hl => match us, hl with | [_, _], _ => rfl
  have G_difference : GFn M "difference" 1 spDiff := gfn_mk m_difference F_difference B_difference (ok_diff (k := 0) F_difference (He.free_ok X G (c.fact 39 (f := .free "sorted") rfl)) (He.free_ok X G (c.fact 40 (f := .free "set") rfl)) (He.free_ok X G (c.fact 41 (f := .free "dict") rfl)) (He.free_ok X G (c.fact 42 (f := .free "list") rfl)))
  obtain ⟨d_need_kind, D_need_kind⟩ := c.def_ 23 (d := dd_need_kind) rfl
  have m_need_kind : M.mg "need_kind" = some (.ref (He.fAd K ("need_kind", none))) := He.glo_ok X G (c.fact 43 (f := .glo "need_kind") rfl)
  have F_need_kind : Fun M.K "need_kind" "need_kind" (topS 52) _ d_need_kind := fun_st D_need_kind
  have B_need_kind : Binds M.K d_need_kind ["log", "index", "kind"] [] := FunD.bindsN D_need_kind fun _ _ _ _ _ _ us hl => match us, hl with | [_, _, _], _ => rfl
  have G_need_kind : GFn M "need_kind" 2 spNeedKindE := gfn_mk m_need_kind F_need_kind B_need_kind (ok_needkinde (k := 1) F_need_kind (He.free_ok X G (c.fact 13 (f := .free "len") rfl)) (G_is_from.mono (by decide)))
  obtain ⟨d_after_more_earned, D_after_more_earned⟩ := c.def_ 24 (d := dd_after_more_earned) rfl
  have m_after_more_earned : M.mg "after_more_earned" = some (.ref (He.fAd K ("after_more_earned", none))) := He.glo_ok X G (c.fact 44 (f := .glo "after_more_earned") rfl)
  have F_after_more_earned : Fun M.K "after_more_earned" "after_more_earned" (topS 54) _ d_after_more_earned := fun_st D_after_more_earned
  have B_after_more_earned : KBinds M.K d_after_more_earned ["log", "index", "life"] ["life"] _ _ := kb_st 2 rfl (by decide) D_after_more_earned fun _ _ _ _ _ _ us ws h1 h2 => match us, ws, h1, h2 with | [_, _], [_], _, _ => rfl
  have G_after_more_earned : GFnK M "after_more_earned" ["life"] 6 spEarned := gfnK_mk m_after_more_earned F_after_more_earned B_after_more_earned (ok_earned (k := 5) F_after_more_earned (G_need_possible.mono (by decide)) (G_need_kind.mono (by decide)) (G_with_more.mono (by decide)) (G_all_lapses_spLapsesW.mono (by decide)) (G_difference.mono (by decide)))
  obtain ⟨d_is_part, D_is_part⟩ := c.def_ 25 (d := dd_is_part) rfl
  have m_is_part : M.mg "is_part" = some (.ref (He.fAd K ("is_part", none))) := He.glo_ok X G (c.fact 45 (f := .glo "is_part") rfl)
  have F_is_part : Fun M.K "is_part" "is_part" (topS 56) _ d_is_part := fun_st D_is_part
  have B_is_part : Binds M.K d_is_part ["log", "life", "spending", "value"] [] := FunD.bindsN D_is_part fun _ _ _ _ _ _ us hl => match us, hl with | [_, _, _, _], _ => rfl
  have G_is_part : GFn M "is_part" 2 spIsPart := gfn_mk m_is_part F_is_part B_is_part (ok_ispart (k := 1) F_is_part (He.free_ok X G (c.fact 8 (f := .free "isinstance") rfl)) (He.free_ok X G (c.fact 6 (f := .free "tuple") rfl)) (He.free_ok X G (c.fact 13 (f := .free "len") rfl)) (He.free_ok X G (c.fact 17 (f := .free "all") rfl)) (He.free_ok X G (c.fact 18 (f := .free "zip") rfl)) (He.free_ok X G (c.fact 5 (f := .free "sum") rfl)) (G_is_from.mono (by decide)))
  obtain ⟨d_used_by, D_used_by⟩ := c.def_ 26 (d := dd_used_by) rfl
  have m_used_by : M.mg "used_by" = some (.ref (He.fAd K ("used_by", none))) := He.glo_ok X G (c.fact 46 (f := .glo "used_by") rfl)
  have F_used_by : Fun M.K "used_by" "used_by" (topS 57) _ d_used_by := fun_st D_used_by
  have B_used_by : Binds M.K d_used_by ["choice"] [] := FunD.bindsN D_used_by fun _ _ _ _ _ _ us hl => match us, hl with | [_], _ => rfl
  have G_used_by : GFn M "used_by" 1 spUsed := gfn_mk m_used_by F_used_by B_used_by (ok_used (k := 0) F_used_by )
  obtain ⟨d_fits, D_fits⟩ := c.def_ 27 (d := dd_fits) rfl
  have m_fits : M.mg "fits" = some (.ref (He.fAd K ("fits", none))) := He.glo_ok X G (c.fact 47 (f := .glo "fits") rfl)
  have F_fits : Fun M.K "fits" "fits" (topS 58) _ d_fits := fun_st D_fits
  have B_fits : Binds M.K d_fits ["log", "life", "value"] [] := FunD.bindsN D_fits fun _ _ _ _ _ _ us hl => match us, hl with | [_, _, _], _ => rfl
  have G_fits : GFn M "fits" 3 spFits := gfn_mk m_fits F_fits B_fits (ok_fits (k := 2) F_fits (He.free_ok X G (c.fact 8 (f := .free "isinstance") rfl)) (He.free_ok X G (c.fact 6 (f := .free "tuple") rfl)) (He.free_ok X G (c.fact 13 (f := .free "len") rfl)) (He.free_ok X G (c.fact 17 (f := .free "all") rfl)) (He.free_ok X G (c.fact 18 (f := .free "zip") rfl)) (He.free_ok X G (c.fact 4 (f := .free "enumerate") rfl)) (He.free_ok X G (c.fact 39 (f := .free "sorted") rfl)) (G_is_part.mono (by decide)) (G_used_by.mono (by decide)))
  obtain ⟨d_is_choice, D_is_choice⟩ := c.def_ 28 (d := dd_is_choice) rfl
  have m_is_choice : M.mg "is_choice" = some (.ref (He.fAd K ("is_choice", none))) := He.glo_ok X G (c.fact 48 (f := .glo "is_choice") rfl)
  have F_is_choice : Fun M.K "is_choice" "is_choice" (topS 59) _ d_is_choice := fun_st D_is_choice
  have B_is_choice : KBinds M.K d_is_choice ["log", "value", "life"] ["life"] _ _ := kb_st 2 rfl (by decide) D_is_choice fun _ _ _ _ _ _ us ws h1 h2 => match us, ws, h1, h2 with | [_, _], [_], _, _ => rfl
  have G_is_choice : GFnK M "is_choice" ["life"] 6 spIsChoice := gfnK_mk m_is_choice F_is_choice B_is_choice (ok_ischoice (k := 5) F_is_choice (G_need_possible.mono (by decide)) (G_fits.mono (by decide)))
  obtain ⟨d_oldest_choice, D_oldest_choice⟩ := c.def_ 29 (d := dd_oldest_choice) rfl
  have m_oldest_choice : M.mg "oldest_choice" = some (.ref (He.fAd K ("oldest_choice", none))) := He.glo_ok X G (c.fact 49 (f := .glo "oldest_choice") rfl)
  have F_oldest_choice : Fun M.K "oldest_choice" "oldest_choice" (topS 60) _ d_oldest_choice := fun_st D_oldest_choice
  have B_oldest_choice : KBinds M.K d_oldest_choice ["log", "life"] ["life"] _ _ := kb_st 1 rfl (by decide) D_oldest_choice fun _ _ _ _ _ _ us ws h1 h2 => match us, ws, h1, h2 with | [_], [_], _, _ => rfl
  have G_oldest_choice : GFnK M "oldest_choice" ["life"] 6 spOldest := gfnK_mk m_oldest_choice F_oldest_choice B_oldest_choice (ok_oldest (k := 5) F_oldest_choice (He.free_ok X G (c.fact 6 (f := .free "tuple") rfl)) (He.int_ok X G (c.fact 14 (f := .int "LAST_TIME" 10000) rfl)) (G_need_possible.mono (by decide)) (G_play.mono (by decide)))
  obtain ⟨d_lapses, D_lapses⟩ := c.def_ 30 (d := dd_lapses) rfl
  have m_lapses : M.mg "lapses" = some (.ref (He.fAd K ("lapses", none))) := He.glo_ok X G (c.fact 50 (f := .glo "lapses") rfl)
  have F_lapses : Fun M.K "lapses" "lapses" (topS 42) _ d_lapses := fun_st D_lapses
  have B_lapses : KBinds M.K d_lapses ["log", "life"] ["life"] _ _ := kb_st 1 rfl (by decide) D_lapses fun _ _ _ _ _ _ us ws h1 h2 => match us, ws, h1, h2 with | [_], [_], _, _ => rfl
  have G_lapses : GGenK M "lapses" ["life"] 6 spLapG := ggenK_mk m_lapses F_lapses B_lapses (gok_lapses (k := 5) F_lapses (G_need_possible.mono (by decide)) (G_all_lapses_spLapses.mono (by decide)))
  obtain ⟨d_fates, D_fates⟩ := c.def_ 31 (d := dd_fates) rfl
  have m_fates : M.mg "fates" = some (.ref (He.fAd K ("fates", none))) := He.glo_ok X G (c.fact 51 (f := .glo "fates") rfl)
  have F_fates : Fun M.K "fates" "fates" (topS 44) _ d_fates := fun_st D_fates
  have B_fates : KBinds M.K d_fates ["log", "life"] ["life"] _ _ := kb_st 1 rfl (by decide) D_fates fun _ _ _ _ _ _ us ws h1 h2 => match us, ws, h1, h2 with | [_], [_], _, _ => rfl
  have G_fates : GFnK M "fates" ["life"] 6 spFates := gfnK_mk m_fates F_fates B_fates (ok_fates (k := 5) F_fates (He.free_ok X G (c.fact 4 (f := .free "enumerate") rfl)) (He.int_ok X G (c.fact 24 (f := .int "LAST_MOMENT" 12000) rfl)) (G_need_possible.mono (by decide)) (G_play.mono (by decide)))
  obtain ⟨d_rescue, D_rescue⟩ := c.def_ 32 (d := dd_rescue) rfl
  have m_rescue : M.mg "rescue" = some (.ref (He.fAd K ("rescue", none))) := He.glo_ok X G (c.fact 52 (f := .glo "rescue") rfl)
  have F_rescue : Fun M.K "rescue" "rescue" (topS 79) _ d_rescue := fun_st D_rescue
  have B_rescue : KBinds M.K d_rescue ["log", "life"] ["life"] _ _ := kb_st 1 rfl (by decide) D_rescue fun _ _ _ _ _ _ us ws h1 h2 => match us, ws, h1, h2 with | [_], [_], _, _ => rfl
  have G_rescue : GFnK M "rescue" ["life"] 6 spRescue := gfnK_mk m_rescue F_rescue B_rescue (ok_rescue (k := 5) F_rescue (G_need_possible.mono (by decide)) (G_all_lapses_spLapses.mono (by decide)))
  obtain ⟨d_rescued, D_rescued⟩ := c.def_ 33 (d := dd_rescued) rfl
  have m_rescued : M.mg "rescued" = some (.ref (He.fAd K ("rescued", none))) := He.glo_ok X G (c.fact 53 (f := .glo "rescued") rfl)
  have F_rescued : Fun M.K "rescued" "rescued" (topS 80) _ d_rescued := fun_st D_rescued
  have B_rescued : KBinds M.K d_rescued ["log", "most", "life"] ["life"] _ _ := kb_st 2 rfl (by decide) D_rescued fun _ _ _ _ _ _ us ws h1 h2 => match us, ws, h1, h2 with | [_, _], [_], _, _ => rfl
  have G_rescued : GFnK M "rescued" ["life"] 6 spRescued := gfnK_mk m_rescued F_rescued B_rescued (ok_rescued (k := 5) F_rescued (He.free_ok X G (c.fact 54 (f := .free "max") rfl)) (He.free_ok X G (c.fact 2 (f := .free "min") rfl)) (He.int_ok X G (c.fact 15 (f := .int "LARGEST" 1000000) rfl)) (G_need_possible.mono (by decide)) (G_all_lapses_spLapses.mono (by decide)) (G_is_from.mono (by decide)))
  obtain ⟨d_need_regular, D_need_regular⟩ := c.def_ 34 (d := dd_need_regular) rfl
  have m_need_regular : M.mg "need_regular" = some (.ref (He.fAd K ("need_regular", none))) := He.glo_ok X G (c.fact 55 (f := .glo "need_regular") rfl)
  have F_need_regular : Fun M.K "need_regular" "need_regular" (topS 74) _ d_need_regular := fun_st D_need_regular
  have B_need_regular : Binds M.K d_need_regular ["earned", "spent", "period", "life"] [] := FunD.bindsN D_need_regular fun _ _ _ _ _ _ us hl => match us, hl with | [_, _, _, _], _ => rfl
  have G_need_regular : GFn M "need_regular" 3 spNeedReg := gfn_mk m_need_regular F_need_regular B_need_regular (ok_needreg (k := 2) F_need_regular (He.int_ok X G (c.fact 15 (f := .int "LARGEST" 1000000) rfl)) (He.int_ok X G (c.fact 22 (f := .int "LONGEST_LIFE" 1000) rfl)) (G_is_from.mono (by decide)) (G_need_life.mono (by decide)))
  obtain ⟨d_excess, D_excess⟩ := c.def_ 35 (d := dd_excess) rfl
  have m_excess : M.mg "excess" = some (.ref (He.fAd K ("excess", none))) := He.glo_ok X G (c.fact 56 (f := .glo "excess") rfl)
  have F_excess : Fun M.K "excess" "excess" (topS 75) _ d_excess := fun_st D_excess
  have B_excess : Binds M.K d_excess ["earned", "spent", "period", "life", "time"] [] := FunD.bindsN D_excess fun _ _ _ _ _ _ us hl => match us, hl with | [_, _, _, _, _], _ => rfl
  have G_excess : GFn M "excess" 1 spExcess := gfn_mk m_excess F_excess B_excess (ok_excess (k := 0) F_excess )
  obtain ⟨d_regular_lapsed, D_regular_lapsed⟩ := c.def_ 36 (d := dd_regular_lapsed) rfl
  have m_regular_lapsed : M.mg "regular_lapsed" = some (.ref (He.fAd K ("regular_lapsed", none))) := He.glo_ok X G (c.fact 57 (f := .glo "regular_lapsed") rfl)
  have F_regular_lapsed : Fun M.K "regular_lapsed" "regular_lapsed" (topS 76) _ d_regular_lapsed := fun_st D_regular_lapsed
  have B_regular_lapsed : KBinds M.K d_regular_lapsed ["earned", "spent", "period", "time", "life"] ["life"] _ _ := kb_st 4 rfl (by decide) D_regular_lapsed fun _ _ _ _ _ _ us ws h1 h2 => match us, ws, h1, h2 with | [_, _, _, _], [_], _, _ => rfl
  have G_regular_lapsed : GFnK M "regular_lapsed" ["life"] 4 spRegular := gfnK_mk m_regular_lapsed F_regular_lapsed B_regular_lapsed (ok_regular (k := 3) F_regular_lapsed (He.free_ok X G (c.fact 54 (f := .free "max") rfl)) (He.free_ok X G (c.fact 58 (f := .free "range") rfl)) (He.int_ok X G (c.fact 59 (f := .int "MOST_NUMBER" 1000000000000000) rfl)) (G_need_regular.mono (by decide)) (G_is_from.mono (by decide)) (G_excess.mono (by decide)))
  obtain ⟨d_first_lapse, D_first_lapse⟩ := c.def_ 37 (d := dd_first_lapse) rfl
  have m_first_lapse : M.mg "first_lapse" = some (.ref (He.fAd K ("first_lapse", none))) := He.glo_ok X G (c.fact 60 (f := .glo "first_lapse") rfl)
  have F_first_lapse : Fun M.K "first_lapse" "first_lapse" (topS 77) _ d_first_lapse := fun_st D_first_lapse
  have B_first_lapse : KBinds M.K d_first_lapse ["earned", "spent", "period", "life"] ["life"] _ _ := kb_st 3 rfl (by decide) D_first_lapse fun _ _ _ _ _ _ us ws h1 h2 => match us, ws, h1, h2 with | [_, _, _], [_], _, _ => rfl
  have G_first_lapse : GFnK M "first_lapse" ["life"] 4 spFLap := gfnK_mk m_first_lapse F_first_lapse B_first_lapse (ok_flap (k := 3) F_first_lapse (He.free_ok X G (c.fact 54 (f := .free "max") rfl)) (He.free_ok X G (c.fact 2 (f := .free "min") rfl)) (He.free_ok X G (c.fact 58 (f := .free "range") rfl)) (G_need_regular.mono (by decide)) (G_excess.mono (by decide)))
  obtain ⟨d_first_of, D_first_of⟩ := c.def_ 38 (d := dd_first_of) rfl
  have m_first_of : M.mg "first_of" = some (.ref (He.fAd K ("first_of", none))) := He.glo_ok X G (c.fact 61 (f := .glo "first_of") rfl)
  have F_first_of : Fun M.K "first_of" "first_of" (topS 66) _ d_first_of := fun_st D_first_of
  have B_first_of : Binds M.K d_first_of ["low", "high", "test"] [] := FunD.bindsN D_first_of fun _ _ _ _ _ _ us hl => match us, hl with | [_, _, _], _ => rfl
  have G_first_of : GFn M "first_of" 18 (spFirst M) := gfn_mk m_first_of F_first_of B_first_of (ok_first (k := 17) F_first_of (by decide))
  obtain ⟨d_best_range, D_best_range⟩ := c.def_ 39 (d := dd_best_range) rfl
  have m_best_range : M.mg "best_range" = some (.ref (He.fAd K ("best_range", none))) := He.glo_ok X G (c.fact 62 (f := .glo "best_range") rfl)
  have F_best_range : Fun M.K "best_range" "best_range" (topS 67) _ d_best_range := fun_st D_best_range
  have B_best_range : Binds M.K d_best_range ["covered", "there", "seen", "most"] [] := FunD.bindsN D_best_range fun _ _ _ _ _ _ us hl => match us, hl with | [_, _, _, _], _ => rfl
  have G_best_range : GFn M "best_range" 19 (spBest M (He.cT K ("best_range", none)).2) := gfn_mk m_best_range F_best_range B_best_range (ok_best (k := 18) F_best_range (G_first_of.mono (by decide)) (code_of (p := ("best_range", none)) D_best_range) (hTB ("best_range", none) List.mem_cons_self))
  obtain ⟨d_need_seen, D_need_seen⟩ := c.def_ 40 (d := dd_need_seen) rfl
  have m_need_seen : M.mg "need_seen" = some (.ref (He.fAd K ("need_seen", none))) := He.glo_ok X G (c.fact 63 (f := .glo "need_seen") rfl)
  have F_need_seen : Fun M.K "need_seen" "need_seen" (topS 65) _ d_need_seen := fun_st D_need_seen
  have B_need_seen : Binds M.K d_need_seen ["seen"] [] := FunD.bindsN D_need_seen fun _ _ _ _ _ _ us hl => match us, hl with | [_], _ => rfl
  have G_need_seen : GFn M "need_seen" 2 spNeedSeen := gfn_mk m_need_seen F_need_seen B_need_seen (ok_needseen (k := 1) F_need_seen (He.free_ok X G (c.fact 8 (f := .free "isinstance") rfl)) (He.free_ok X G (c.fact 6 (f := .free "tuple") rfl)) (He.free_ok X G (c.fact 13 (f := .free "len") rfl)) (He.int_ok X G (c.fact 64 (f := .int "MOST_SEEN" 10) rfl)) (He.int_ok X G (c.fact 24 (f := .int "LAST_MOMENT" 12000) rfl)) (He.int_ok X G (c.fact 65 (f := .int "MOST_BALANCE" 1000000000) rfl)) (G_is_from.mono (by decide)))
  obtain ⟨d_fit_life, D_fit_life⟩ := c.def_ 41 (d := dd_fit_life) rfl
  have m_fit_life : M.mg "fit_life" = some (.ref (He.fAd K ("fit_life", none))) := He.glo_ok X G (c.fact 66 (f := .glo "fit_life") rfl)
  have F_fit_life : Fun M.K "fit_life" "fit_life" (topS 68) _ d_fit_life := fun_st D_fit_life
  have B_fit_life : Binds M.K d_fit_life ["log", "seen"] [] := FunD.bindsN D_fit_life fun _ _ _ _ _ _ us hl => match us, hl with | [_, _], _ => rfl
  have G_fit_life : GFn M "fit_life" 20 (spFit (He.cT K ("fit_life", none)).2 (He.cT K ("best_range", none)).2) := gfn_mk m_fit_life F_fit_life B_fit_life (ok_fit (k := 19) F_fit_life (He.int_ok X G (c.fact 22 (f := .int "LONGEST_LIFE" 1000) rfl)) (G_need_log.mono (by decide)) (G_need_seen.mono (by decide)) (G_refused_at.mono (by decide)) (G_balance_of.mono (by decide)) (G_best_range.mono (by decide)) (code_of (p := ("fit_life", none)) D_fit_life) (hTB ("fit_life", none) (List.mem_cons_of_mem _ List.mem_cons_self)))
  obtain ⟨d_put_together, D_put_together⟩ := c.def_ 42 (d := dd_put_together) rfl
  have m_put_together : M.mg "put_together" = some (.ref (He.fAd K ("put_together", none))) := He.glo_ok X G (c.fact 67 (f := .glo "put_together") rfl)
  have F_put_together : Fun M.K "put_together" "put_together" (topS 46) _ d_put_together := fun_st D_put_together
  have B_put_together : Binds M.K d_put_together ["logs"] [] := FunD.bindsN D_put_together fun _ _ _ _ _ _ us hl => match us, hl with | [_], _ => rfl
  have G_put_together : GFn M "put_together" 1 spPut := gfn_mk m_put_together F_put_together B_put_together (ok_put (k := 0) F_put_together (He.free_ok X G (c.fact 4 (f := .free "enumerate") rfl)) (He.free_ok X G (c.fact 9 (f := .free "int") rfl)) (He.free_ok X G (c.fact 39 (f := .free "sorted") rfl)) (He.free_ok X G (c.fact 6 (f := .free "tuple") rfl)))
  obtain ⟨d_together, D_together⟩ := c.def_ 43 (d := dd_together) rfl
  have m_together : M.mg "together" = some (.ref (He.fAd K ("together", none))) := He.glo_ok X G (c.fact 68 (f := .glo "together") rfl)
  have F_together : Fun M.K "together" "together" (topS 47) _ d_together := fun_st D_together
  have G_together : GSt M "together" 0 [] 5 spTog := gst_mk m_together F_together (st_tog (k := 4) F_together (bs_st D_together bs_tog) (He.free_ok X G (c.fact 5 (f := .free "sum") rfl)) (He.free_ok X G (c.fact 13 (f := .free "len") rfl)) (He.int_ok X G (c.fact 19 (f := .int "MOST_EVENTS" 30) rfl)) (G_need_log.mono (by decide)) (G_put_together.mono (by decide)))
  obtain ⟨d_saved_together, D_saved_together⟩ := c.def_ 44 (d := dd_saved_together) rfl
  have m_saved_together : M.mg "saved_together" = some (.ref (He.fAd K ("saved_together", none))) := He.glo_ok X G (c.fact 69 (f := .glo "saved_together") rfl)
  have F_saved_together : Fun M.K "saved_together" "saved_together" (topS 48) _ d_saved_together := fun_st D_saved_together
  have G_saved_together : GSt M "saved_together" 1 ["life"] 6 spSavT := gst_mk m_saved_together F_saved_together (st_savt (k := 5) F_saved_together (bs_st D_saved_together bs_sav) (He.free_ok X G (c.fact 5 (f := .free "sum") rfl)) (He.free_ok X G (c.fact 13 (f := .free "len") rfl)) (He.int_ok X G (c.fact 19 (f := .int "MOST_EVENTS" 30) rfl)) (G_need_moment.mono (by decide)) (G_need_life.mono (by decide)) (G_need_possible.mono (by decide)) (G_lapsed_by.mono (by decide)) (G_put_together.mono (by decide)))
  obtain ⟨d_left, D_left⟩ := c.def_ 45 (d := dd_left) rfl
  have m_left : M.mg "left" = some (.ref (He.fAd K ("left", none))) := He.glo_ok X G (c.fact 70 (f := .glo "left") rfl)
  have F_left : Fun M.K "left" "left" (topS 41) _ d_left := fun_st D_left
  have B_left : KBinds M.K d_left ["log", "time", "life"] ["life"] _ _ := kb_st 2 rfl (by decide) D_left fun _ _ _ _ _ _ us ws h1 h2 => match us, ws, h1, h2 with | [_, _], [_], _, _ => rfl
  have G_left : GFnK M "left" ["life"] 7 spLeft := gfnK_mk m_left F_left B_left (ok_left (k := 6) F_left (G_need_asked.mono (by decide)) (G_play.mono (by decide)) (G_merged.mono (by decide)))
  obtain ⟨d_first_refused, D_first_refused⟩ := c.def_ 46 (d := dd_first_refused) rfl
  have m_first_refused : M.mg "first_refused" = some (.ref (He.fAd K ("first_refused", none))) := He.glo_ok X G (c.fact 71 (f := .glo "first_refused") rfl)
  have F_first_refused : Fun M.K "first_refused" "first_refused" (topS 31) _ d_first_refused := fun_st D_first_refused
  have B_first_refused : KBinds M.K d_first_refused ["log", "life"] ["life"] _ _ := kb_st 1 rfl (by decide) D_first_refused fun _ _ _ _ _ _ us ws h1 h2 => match us, ws, h1, h2 with | [_], [_], _, _ => rfl
  have G_first_refused : GFnK M "first_refused" ["life"] 5 spFRef := gfnK_mk m_first_refused F_first_refused B_first_refused (ok_fref (k := 4) F_first_refused (G_need_log.mono (by decide)) (G_need_life.mono (by decide)) (G_refused_at.mono (by decide)))
  obtain ⟨d_is_possible, D_is_possible⟩ := c.def_ 47 (d := dd_is_possible) rfl
  have m_is_possible : M.mg "is_possible" = some (.ref (He.fAd K ("is_possible", none))) := He.glo_ok X G (c.fact 72 (f := .glo "is_possible") rfl)
  have F_is_possible : Fun M.K "is_possible" "is_possible" (topS 32) _ d_is_possible := fun_st D_is_possible
  have B_is_possible : KBinds M.K d_is_possible ["log", "life"] ["life"] _ _ := kb_st 1 rfl (by decide) D_is_possible fun _ _ _ _ _ _ us ws h1 h2 => match us, ws, h1, h2 with | [_], [_], _, _ => rfl
  have G_is_possible : GFnK M "is_possible" ["life"] 5 spPossB := gfnK_mk m_is_possible F_is_possible B_is_possible (ok_possb (k := 4) F_is_possible (G_need_log.mono (by decide)) (G_need_life.mono (by decide)) (G_refused_at.mono (by decide)))
  obtain ⟨d_newest_choice, D_newest_choice⟩ := c.def_ 48 (d := dd_newest_choice) rfl
  have m_newest_choice : M.mg "newest_choice" = some (.ref (He.fAd K ("newest_choice", none))) := He.glo_ok X G (c.fact 73 (f := .glo "newest_choice") rfl)
  have F_newest_choice : Fun M.K "newest_choice" "newest_choice" (topS 61) _ d_newest_choice := fun_st D_newest_choice
  have B_newest_choice : KBinds M.K d_newest_choice ["log", "life"] ["life"] _ _ := kb_st 1 rfl (by decide) D_newest_choice fun _ _ _ _ _ _ us ws h1 h2 => match us, ws, h1, h2 with | [_], [_], _, _ => rfl
  have G_newest_choice : GFnK M "newest_choice" ["life"] 6 spNewest := gfnK_mk m_newest_choice F_newest_choice B_newest_choice (ok_newest (k := 5) F_newest_choice (He.free_ok X G (c.fact 4 (f := .free "enumerate") rfl)) (He.free_ok X G (c.fact 5 (f := .free "sum") rfl)) (He.free_ok X G (c.fact 6 (f := .free "tuple") rfl)) (He.free_ok X G (c.fact 2 (f := .free "min") rfl)) (G_need_possible.mono (by decide)))
  obtain ⟨d_range_for, D_range_for⟩ := c.def_ 49 (d := dd_range_for) rfl
  have m_range_for : M.mg "range_for" = some (.ref (He.fAd K ("range_for", none))) := He.glo_ok X G (c.fact 74 (f := .glo "range_for") rfl)
  have F_range_for : Fun M.K "range_for" "range_for" (topS 69) _ d_range_for := fun_st D_range_for
  have B_range_for : Binds M.K d_range_for ["made", "life", "seen"] [] := FunD.bindsN D_range_for fun _ _ _ _ _ _ us hl => match us, hl with | [_, _, _], _ => rfl
  have G_range_for : GFn M "range_for" 20 (spRange M (He.cT K ("range_for", none)).2 (He.cT K ("best_range", none)).2) := gfn_mk m_range_for F_range_for B_range_for (ok_range (k := 19) F_range_for (He.int_ok X G (c.fact 15 (f := .int "LARGEST" 1000000) rfl)) (G_refused_at.mono (by decide)) (G_balance_of.mono (by decide)) (G_best_range.mono (by decide)) (code_of (p := ("range_for", none)) D_range_for) (hTB ("range_for", none) (List.mem_cons_of_mem _ (List.mem_cons_of_mem _ List.mem_cons_self))))
  obtain ⟨d_fit_amount, D_fit_amount⟩ := c.def_ 50 (d := dd_fit_amount) rfl
  have m_fit_amount : M.mg "fit_amount" = some (.ref (He.fAd K ("fit_amount", none))) := He.glo_ok X G (c.fact 75 (f := .glo "fit_amount") rfl)
  have F_fit_amount : Fun M.K "fit_amount" "fit_amount" (topS 70) _ d_fit_amount := fun_st D_fit_amount
  have B_fit_amount : KBinds M.K d_fit_amount ["log", "index", "seen", "life"] ["life"] _ _ := kb_st 3 rfl (by decide) D_fit_amount fun _ _ _ _ _ _ us ws h1 h2 => match us, ws, h1, h2 with | [_, _, _], [_], _, _ => rfl
  have G_fit_amount : GFnK M "fit_amount" ["life"] 21 (spAmount (He.cT K ("fit_amount", none)).2 (He.cT K ("best_range", none)).2 (He.cT K ("range_for", none)).2) := gfnK_mk m_fit_amount F_fit_amount B_fit_amount (ok_amount (k := 20) F_fit_amount (He.int_ok X G (c.fact 15 (f := .int "LARGEST" 1000000) rfl)) (He.free_ok X G (c.fact 13 (f := .free "len") rfl)) (G_need_log.mono (by decide)) (G_need_life.mono (by decide)) (G_is_from.mono (by decide)) (G_need_seen.mono (by decide)) (G_with_more.mono (by decide)) (by decide) (G_range_for.mono (by decide)) (code_of (p := ("fit_amount", none)) D_fit_amount) (hTB ("fit_amount", none) (List.mem_cons_of_mem _ (List.mem_cons_of_mem _ (List.mem_cons_of_mem _ List.mem_cons_self)))))
  obtain ⟨d_fit_earning, D_fit_earning⟩ := c.def_ 51 (d := dd_fit_earning) rfl
  have m_fit_earning : M.mg "fit_earning" = some (.ref (He.fAd K ("fit_earning", none))) := He.glo_ok X G (c.fact 76 (f := .glo "fit_earning") rfl)
  have F_fit_earning : Fun M.K "fit_earning" "fit_earning" (topS 71) _ d_fit_earning := fun_st D_fit_earning
  have B_fit_earning : KBinds M.K d_fit_earning ["log", "time", "seen", "life"] ["life"] _ _ := kb_st 3 rfl (by decide) D_fit_earning fun _ _ _ _ _ _ us ws h1 h2 => match us, ws, h1, h2 with | [_, _, _], [_], _, _ => rfl
  have G_fit_earning : GFnK M "fit_earning" ["life"] 21 (spEarning (He.cT K ("fit_earning", none)).2 (He.cT K ("best_range", none)).2 (He.cT K ("range_for", none)).2) := gfnK_mk m_fit_earning F_fit_earning B_fit_earning (ok_earning (k := 20) F_fit_earning (He.int_ok X G (c.fact 14 (f := .int "LAST_TIME" 10000) rfl)) (He.free_ok X G (c.fact 13 (f := .free "len") rfl)) (He.int_ok X G (c.fact 19 (f := .int "MOST_EVENTS" 30) rfl)) (G_need_log.mono (by decide)) (G_need_life.mono (by decide)) (G_is_from.mono (by decide)) (G_need_seen.mono (by decide)) (G_range_for.mono (by decide)) (code_of (p := ("fit_earning", none)) D_fit_earning) (hTB ("fit_earning", none) (List.mem_cons_of_mem _ (List.mem_cons_of_mem _ (List.mem_cons_of_mem _ (List.mem_cons_of_mem _ List.mem_cons_self))))))
  have m_Account : M.mg "Account" = some (.ref (He.fAd K ("Account", none))) := He.glo_ok X G (c.fact 77 (f := .glo "Account") rfl)
  have A_acc : AccC K (He.ga K "Account") := ⟨He.cls_ok (c.fact 78 (f := .cls "Account") rfl), He.noat_ok (c.fact 79 (f := .noat "Account" "span") rfl), He.noat_ok (c.fact 80 (f := .noat "Account" "log") rfl), He.noat_ok (c.fact 81 (f := .noat "Account" "now") rfl), He.noat_ok (c.fact 82 (f := .noat "Account" "past") rfl), acc_con hA⟩
  obtain ⟨d_a_init, D_a_init⟩ := c.def_ 52 (d := dd_a_init) rfl
  have F_a_init : Fun M.K "__init__" "Account.__init__" (clsAt (topS 49) 1) _ d_a_init := fun_st D_a_init
  have B_a_init : Binds M.K d_a_init ["self", "life"] [] := FunD.bindsN D_a_init fun _ _ _ _ _ _ us hl => match us, hl with | [_, _], _ => rfl
  have G_a_init : GMk M (He.ga K "Account") 3 (spAccInit (He.ga K "Account")) := ⟨_, _, _, He.mkr_ok (c.fact 83 (f := .mkr "Account") rfl), B_a_init, ok_accinit (k := 2) F_a_init A_acc (G_need_life.mono (by decide))⟩
  obtain ⟨d_a_yearly, D_a_yearly⟩ := defW cw okw 0 (d := dw_yearly) rfl
  have F_a_yearly : Fun M.K "yearly" "Account.yearly" (clsAt (topS 49) 2) _ d_a_yearly := fun_st D_a_yearly
  have B_a_yearly : Binds M.K d_a_yearly ["cls"] [] := FunD.bindsN D_a_yearly fun _ _ _ _ _ _ us hl => match us, hl with | [_], _ => rfl
  have G_a_yearly : GCm M (He.ga K "Account") "yearly" 5 (spYearly (He.ga K "Account")) := ⟨_, _, _, _, _, acc_cread hA, acc_cmet hA, B_a_yearly, ok_yearly (k := 3) F_a_yearly G_a_init⟩
  obtain ⟨d_a_len, D_a_len⟩ := c.def_ 53 (d := dd_a_len) rfl
  have F_a_len : Fun M.K "__len__" "Account.__len__" (clsAt (topS 49) 3) _ d_a_len := fun_st D_a_len
  have B_a_len : Binds M.K d_a_len ["self"] [] := FunD.bindsN D_a_len fun _ _ _ _ _ _ us hl => match us, hl with | [_], _ => rfl
  have G_a_len : GLen M (He.ga K "Account") 1 (spAccLen (He.ga K "Account")) := ⟨_, _, _, acc_len (c.fact 84 (f := .meth "Account" "__len__") rfl), B_a_len, ok_acclen (k := 0) F_a_len A_acc (He.free_ok X G (c.fact 13 (f := .free "len") rfl))⟩
  obtain ⟨d_a_change, D_a_change⟩ := c.def_ 54 (d := dd_a_change) rfl
  have F_a_change : Fun M.K "change" "Account.change" (clsAt (topS 49) 5) _ d_a_change := fun_st D_a_change
  have B_a_change : Binds M.K d_a_change ["self", "time", "events"] [] := FunD.bindsN D_a_change fun _ _ _ _ _ _ us hl => match us, hl with | [_, _, _], _ => rfl
  have G_a_change : GMt M (He.ga K "Account") "change" 1 (spChange (He.ga K "Account")) := ⟨_, _, _, (He.meth_ok (c.fact 85 (f := .meth "Account" "change") rfl)), B_a_change, ok_change (k := 0) F_a_change A_acc⟩
  obtain ⟨d_a_nt, D_a_nt⟩ := c.def_ 55 (d := dd_a_nt) rfl
  have F_a_nt : Fun M.K "need_time" "Account.need_time" (clsAt (topS 49) 6) _ d_a_nt := fun_st D_a_nt
  have B_a_nt : Binds M.K d_a_nt ["self", "time"] [] := FunD.bindsN D_a_nt fun _ _ _ _ _ _ us hl => match us, hl with | [_, _], _ => rfl
  have G_a_nt : GMt M (He.ga K "Account") "need_time" 2 (spNeedTimeA (He.ga K "Account")) := ⟨_, _, _, (He.meth_ok (c.fact 86 (f := .meth "Account" "need_time") rfl)), B_a_nt, ok_needtimea (k := 1) F_a_nt A_acc (G_is_from.mono (by decide)) (He.int_ok X G (c.fact 14 (f := .int "LAST_TIME" 10000) rfl))⟩
  obtain ⟨d_a_earn, D_a_earn⟩ := c.def_ 56 (d := dd_a_earn) rfl
  have F_a_earn : Fun M.K "earn" "Account.earn" (clsAt (topS 49) 7) _ d_a_earn := fun_st D_a_earn
  have G_a_earn : GMtSt M (He.ga K "Account") "earn" 2 4 (spEarnA (He.ga K "Account")) := ⟨_, (He.meth_ok (c.fact 87 (f := .meth "Account" "earn") rfl)), st_earna (k := 3) F_a_earn (bs_st D_a_earn bs_earn) A_acc (G_a_nt.mono (by decide)) (G_a_change.mono (by decide)) (G_is_from.mono (by decide)) (G_balance_of.mono (by decide)) (He.free_ok X G (c.fact 13 (f := .free "len") rfl)) (He.free_ok X G (c.fact 6 (f := .free "tuple") rfl)) (He.int_ok X G (c.fact 15 (f := .int "LARGEST" 1000000) rfl))⟩
  obtain ⟨d_a_spend, D_a_spend⟩ := c.def_ 57 (d := dd_a_spend) rfl
  have F_a_spend : Fun M.K "spend" "Account.spend" (clsAt (topS 49) 8) _ d_a_spend := fun_st D_a_spend
  have B_a_spend : Binds M.K d_a_spend ["self", "time", "amount"] [] := FunD.bindsN D_a_spend fun _ _ _ _ _ _ us hl => match us, hl with | [_, _, _], _ => rfl
  have G_a_spend : GMt M (He.ga K "Account") "spend" 4 (spSpendA (He.ga K "Account")) := ⟨_, _, _, (He.meth_ok (c.fact 88 (f := .meth "Account" "spend") rfl)), B_a_spend, ok_spenda (k := 3) F_a_spend A_acc (G_a_nt.mono (by decide)) (G_a_change.mono (by decide)) (G_is_from.mono (by decide)) (G_balance_of.mono (by decide)) (He.free_ok X G (c.fact 13 (f := .free "len") rfl)) (He.int_ok X G (c.fact 15 (f := .int "LARGEST" 1000000) rfl))⟩
  obtain ⟨d_a_wait, D_a_wait⟩ := c.def_ 58 (d := dd_a_wait) rfl
  have F_a_wait : Fun M.K "wait" "Account.wait" (clsAt (topS 49) 9) _ d_a_wait := fun_st D_a_wait
  have B_a_wait : Binds M.K d_a_wait ["self", "time"] [] := FunD.bindsN D_a_wait fun _ _ _ _ _ _ us hl => match us, hl with | [_, _], _ => rfl
  have G_a_wait : GMt M (He.ga K "Account") "wait" 4 (spWaitA (He.ga K "Account")) := ⟨_, _, _, (He.meth_ok (c.fact 89 (f := .meth "Account" "wait") rfl)), B_a_wait, ok_waita (k := 3) F_a_wait A_acc (G_a_nt.mono (by decide)) (G_a_change.mono (by decide)) (G_balance_of.mono (by decide))⟩
  obtain ⟨d_a_rem, D_a_rem⟩ := c.def_ 59 (d := dd_a_rem) rfl
  have F_a_rem : Fun M.K "remaining" "Account.remaining" (clsAt (topS 49) 16) _ d_a_rem := fun_st D_a_rem
  have B_a_rem : Binds M.K d_a_rem ["self"] [] := FunD.bindsN D_a_rem fun _ _ _ _ _ _ us hl => match us, hl with | [_], _ => rfl
  have G_a_rem : GGenM M (He.ga K "Account") "remaining" 3 (spRemain (He.ga K "Account")) := ⟨_, _, _, (He.meth_ok (c.fact 90 (f := .meth "Account" "remaining") rfl)), B_a_rem, gok_remain (k := 2) F_a_rem A_acc (G_play.mono (by decide)) (G_merged.mono (by decide))⟩
  have m_InvalidLog : M.mg "InvalidLog" = some (.ref (He.fAd K ("InvalidLog", none))) := He.glo_ok X G (c.fact 91 (f := .glo "InvalidLog") rfl)
  have m_InvalidLife : M.mg "InvalidLife" = some (.ref (He.fAd K ("InvalidLife", none))) := He.glo_ok X G (c.fact 92 (f := .glo "InvalidLife") rfl)
  have m_InvalidTime : M.mg "InvalidTime" = some (.ref (He.fAd K ("InvalidTime", none))) := He.glo_ok X G (c.fact 93 (f := .glo "InvalidTime") rfl)
  have m_InvalidAmount : M.mg "InvalidAmount" = some (.ref (He.fAd K ("InvalidAmount", none))) := He.glo_ok X G (c.fact 94 (f := .glo "InvalidAmount") rfl)
  have m_InvalidIndex : M.mg "InvalidIndex" = some (.ref (He.fAd K ("InvalidIndex", none))) := He.glo_ok X G (c.fact 95 (f := .glo "InvalidIndex") rfl)
  have m_InvalidChoice : M.mg "InvalidChoice" = some (.ref (He.fAd K ("InvalidChoice", none))) := He.glo_ok X G (c.fact 96 (f := .glo "InvalidChoice") rfl)
  have m_InvalidSeen : M.mg "InvalidSeen" = some (.ref (He.fAd K ("InvalidSeen", none))) := He.glo_ok X G (c.fact 97 (f := .glo "InvalidSeen") rfl)
  have m_InvalidNumber : M.mg "InvalidNumber" = some (.ref (He.fAd K ("InvalidNumber", none))) := He.glo_ok X G (c.fact 98 (f := .glo "InvalidNumber") rfl)
  have m_NotEnough : M.mg "NotEnough" = some (.ref (He.fAd K ("NotEnough", none))) := He.glo_ok X G (c.fact 99 (f := .glo "NotEnough") rfl)
  have m_NothingToUndo : M.mg "NothingToUndo" = some (.ref (He.fAd K ("NothingToUndo", none))) := He.glo_ok X G (c.fact 100 (f := .glo "NothingToUndo") rfl)
  have m_Refused : M.mg "Refused" = some (.ref (He.fAd K ("Refused", none))) := He.glo_ok X G (c.fact 101 (f := .glo "Refused") rfl)
  have m_TooMany : M.mg "TooMany" = some (.ref (He.fAd K ("TooMany", none))) := He.glo_ok X G (c.fact 102 (f := .glo "TooMany") rfl)
  have m_PointError : M.mg "PointError" = some (.ref (He.fAd K ("PointError", none))) := He.glo_ok X G (c.fact 103 (f := .glo "PointError") rfl)
  have gX : ∀ n ∈ ("PointError" : Str) :: xNames, M.mg n = some (.ref (He.ga M.K n)) := by
    intro n hn
    simp only [List.mem_cons, List.not_mem_nil, or_false] at hn
    rcases hn with rfl | rfl | rfl | rfl | rfl | rfl | rfl | rfl | rfl | rfl | rfl | rfl | rfl
    · exact m_PointError
    · exact m_InvalidLog
    · exact m_InvalidLife
    · exact m_InvalidTime
    · exact m_InvalidAmount
    · exact m_InvalidIndex
    · exact m_InvalidChoice
    · exact m_InvalidSeen
    · exact m_InvalidNumber
    · exact m_NotEnough
    · exact m_NothingToUndo
    · exact m_Refused
    · exact m_TooMany
  have gE : ∀ n ∈ xNames.take 10, GExc M n := by
    intro n hn
    simp only [List.take_succ_cons, List.take_zero, List.mem_cons, List.not_mem_nil, or_false] at hn
    rcases hn with rfl | rfl | rfl | rfl | rfl | rfl | rfl | rfl | rfl | rfl
    · exact gexc_mk m_InvalidLog (c.fact 104 (f := .exc "InvalidLog") rfl)
    · exact gexc_mk m_InvalidLife (c.fact 105 (f := .exc "InvalidLife") rfl)
    · exact gexc_mk m_InvalidTime (c.fact 106 (f := .exc "InvalidTime") rfl)
    · exact gexc_mk m_InvalidAmount (c.fact 107 (f := .exc "InvalidAmount") rfl)
    · exact gexc_mk m_InvalidIndex (c.fact 108 (f := .exc "InvalidIndex") rfl)
    · exact gexc_mk m_InvalidChoice (c.fact 109 (f := .exc "InvalidChoice") rfl)
    · exact gexc_mk m_InvalidSeen (c.fact 110 (f := .exc "InvalidSeen") rfl)
    · exact gexc_mk m_InvalidNumber (c.fact 111 (f := .exc "InvalidNumber") rfl)
    · exact gexc_mk m_NotEnough (c.fact 112 (f := .exc "NotEnough") rfl)
    · exact gexc_mk m_NothingToUndo (c.fact 113 (f := .exc "NothingToUndo") rfl)
  obtain ⟨d_refinit, D_refinit⟩ := c.def_ 60 (d := dd_refinit) rfl
  have F_refinit : Fun M.K "__init__" "Refused.__init__" (clsM (topS 12)) _ d_refinit := fun_st D_refinit
  have B_refinit : Binds M.K d_refinit ["self", "index"] [] := FunD.bindsN D_refinit fun _ _ _ _ _ _ us hl => match us, hl with | [_, _], _ => rfl
  have G_Refused : GExcO M "Refused" "index" 1 := ownN_g (k := 0) hR m_Refused (fun T => fn_refinit F_refinit m_PointError T) B_refinit
  obtain ⟨d_manyinit, D_manyinit⟩ := c.def_ 61 (d := dd_manyinit) rfl
  have F_manyinit : Fun M.K "__init__" "TooMany.__init__" (clsM (topS 13)) _ d_manyinit := fun_st D_manyinit
  have B_manyinit : Binds M.K d_manyinit ["self", "limit"] [] := FunD.bindsN D_manyinit fun _ _ _ _ _ _ us hl => match us, hl with | [_, _], _ => rfl
  have G_TooMany : GExcO M "TooMany" "limit" 1 := ownN_g (k := 0) hMn m_TooMany (fun T => fn_manyinit F_manyinit m_PointError T) B_manyinit
  obtain ⟨d__law_none_right, D__law_none_right⟩ := c.def_ 62 (d := dd__law_none_right) rfl
  have m__law_none_right : M.mg "_law_none_right" = some (.ref (He.fAd K ("_law_none_right", none))) := He.glo_ok X G (c.fact 114 (f := .glo "_law_none_right") rfl)
  have F__law_none_right : Fun M.K "_law_none_right" "_law_none_right" (topS 86) _ d__law_none_right := fun_st D__law_none_right
  have B__law_none_right : Binds M.K d__law_none_right [] [] := FunD.bindsN D__law_none_right fun _ _ _ _ _ _ us hl => match us, hl with | [], _ => rfl
  have G__law_none_right : GFn M "_law_none_right" 24 (spNone19 (He.cT K ("best_range", none)).2 (He.cT K ("fit_life", none)).2 (He.cT K ("range_for", none)).2 (He.cT K ("fit_amount", none)).2 (He.cT K ("fit_earning", none)).2) := gfn_mk m__law_none_right F__law_none_right B__law_none_right (ok_none19 (k := 20) F__law_none_right (He.free_ok X G (c.fact 42 (f := .free "list") rfl)) (He.free_ok X G (c.fact 13 (f := .free "len") rfl)) (G_balance.mono (by decide)) (G_lapsed.mono (by decide)) (G_left.mono (by decide)) (G_lapses.mono (by decide)) (G_fates.mono (by decide)) (G_worst_moment.mono (by decide)) (G_is_choice.mono (by decide)) (G_oldest_choice.mono (by decide)) (G_newest_choice.mono (by decide)) (G_together.mono (by decide)) (G_saved_together.mono (by decide)) (G_rescue.mono (by decide)) (G_rescued.mono (by decide)) (G_fit_life.mono (by decide)) (G_first_refused.mono (by decide)) (Cc := He.ga K "Account") m_Account A_acc (G_a_init.mono (by decide)) (G_a_len.mono (by decide)) (G_a_rem.mono (by decide)))
  obtain ⟨d__law_one_right, D__law_one_right⟩ := c.def_ 63 (d := dd__law_one_right) rfl
  have m__law_one_right : M.mg "_law_one_right" = some (.ref (He.fAd K ("_law_one_right", none))) := He.glo_ok X G (c.fact 115 (f := .glo "_law_one_right") rfl)
  have F__law_one_right : Fun M.K "_law_one_right" "_law_one_right" (topS 87) _ d__law_one_right := fun_st D__law_one_right
  have B__law_one_right : Binds M.K d__law_one_right ["_law_v"] [] := FunD.bindsN D__law_one_right fun _ _ _ _ _ _ us hl => match us, hl with | [_], _ => rfl
  have G__law_one_right : GFn M "_law_one_right" 25 (spOne19 (He.cT K ("best_range", none)).2 (He.cT K ("fit_life", none)).2 (He.cT K ("range_for", none)).2 (He.cT K ("fit_amount", none)).2 (He.cT K ("fit_earning", none)).2) := gfn_mk m__law_one_right F__law_one_right B__law_one_right (ok_one19 (k := 21) F__law_one_right (He.free_ok X G (c.fact 42 (f := .free "list") rfl)) (G_balance.mono (by decide)) (G_worst_moment.mono (by decide)) (G_after_more_earned.mono (by decide)) (G_rescue.mono (by decide)) (G_rescued.mono (by decide)) (G_fit_amount.mono (by decide)) (G_fit_earning.mono (by decide)) (G_fit_life.mono (by decide)) (G_lapses.mono (by decide)) (G_fates.mono (by decide)) (G_first_refused.mono (by decide)) (G_is_possible.mono (by decide)) (G_oldest_choice.mono (by decide)))
  obtain ⟨d__law_name_of, D__law_name_of⟩ := c.def_ 64 (d := dd__law_name_of) rfl
  have m__law_name_of : M.mg "_law_name_of" = some (.ref (He.fAd K ("_law_name_of", none))) := He.glo_ok X G (c.fact 116 (f := .glo "_law_name_of") rfl)
  have F__law_name_of : Fun M.K "_law_name_of" "_law_name_of" (topS 84) _ d__law_name_of := fun_st D__law_name_of
  have B__law_name_of : Binds M.K d__law_name_of ["_law_e"] [] := FunD.bindsN D__law_name_of fun _ _ _ _ _ _ us hl => match us, hl with | [_], _ => rfl
  have G__law_name_of : GFn M "_law_name_of" 1 (spNamed M) := gfn_mk m__law_name_of F__law_name_of B__law_name_of (ok_named (k := 0) F__law_name_of (He.free_ok X G (c.fact 8 (f := .free "isinstance") rfl)) (He.free_ok X G (c.fact 18 (f := .free "zip") rfl)) (He.free_ok X G (c.fact 117 (f := .free "ValueError") rfl)))
  obtain ⟨d__law_made_right, D__law_made_right⟩ := c.def_ 65 (d := dd__law_made_right) rfl
  have m__law_made_right : M.mg "_law_made_right" = some (.ref (He.fAd K ("_law_made_right", none))) := He.glo_ok X G (c.fact 118 (f := .glo "_law_made_right") rfl)
  have F__law_made_right : Fun M.K "_law_made_right" "_law_made_right" (topS 89) _ d__law_made_right := fun_st D__law_made_right
  have B__law_made_right : Binds M.K d__law_made_right [] [] := FunD.bindsN D__law_made_right fun _ _ _ _ _ _ us hl => match us, hl with | [], _ => rfl
  have G__law_made_right : GFn M "_law_made_right" 4 spTrue := gfn_mk m__law_made_right F__law_made_right B__law_made_right (ok_made (k := 1) F__law_made_right (He.free_ok X G (c.fact 8 (f := .free "isinstance") rfl)) (G__law_name_of.mono (by decide)) gE (G_Refused.mono (by decide)) (G_TooMany.mono (by decide)) (fun n hn => namedP_mk (List.all_eq_true.mp hN n hn) gX hn (short_all n hn)) (ownN_x hR m_Refused) (ownN_x hMn m_TooMany))
  have G_is_log_spIsLogL : GFn M "is_log" 1 spIsLogL := gfn_mk m_is_log F_is_log B_is_log (ok_islogl (k := 0) F_is_log (He.free_ok X G (c.fact 8 (f := .free "isinstance") rfl)) (He.free_ok X G (c.fact 6 (f := .free "tuple") rfl)) (He.free_ok X G (c.fact 13 (f := .free "len") rfl)) (He.int_ok X G (c.fact 19 (f := .int "MOST_EVENTS" 30) rfl)))
  obtain ⟨d__law_many_right, D__law_many_right⟩ := c.def_ 66 (d := dd__law_many_right) rfl
  have m__law_many_right : M.mg "_law_many_right" = some (.ref (He.fAd K ("_law_many_right", none))) := He.glo_ok X G (c.fact 119 (f := .glo "_law_many_right") rfl)
  have F__law_many_right : Fun M.K "_law_many_right" "_law_many_right" (topS 88) _ d__law_many_right := fun_st D__law_many_right
  have B__law_many_right : Binds M.K d__law_many_right [] [] := FunD.bindsN D__law_many_right fun _ _ _ _ _ _ us hl => match us, hl with | [], _ => rfl
  have G__law_many_right : GFn M "_law_many_right" 11 (spMany19 (He.cT K ("best_range", none)).2 (He.cT K ("fit_life", none)).2 (He.cT K ("range_for", none)).2 (He.cT K ("fit_amount", none)).2 (He.cT K ("fit_earning", none)).2) := gfn_mk m__law_many_right F__law_many_right B__law_many_right (ok_many19 (k := 7) F__law_many_right (He.free_ok X G (c.fact 42 (f := .free "list") rfl)) (He.free_ok X G (c.fact 13 (f := .free "len") rfl)) (He.free_ok X G (c.fact 6 (f := .free "tuple") rfl)) (He.free_ok X G (c.fact 58 (f := .free "range") rfl)) (G_is_possible.mono (by decide)) (G_first_refused.mono (by decide)) (G_is_log_spIsLogL.mono (by decide)) (G_balance.mono (by decide)) (G_lapses.mono (by decide)) (G_regular_lapsed.mono (by decide)) (G_first_lapse.mono (by decide)) (Cc := He.ga K "Account") m_Account A_acc (G_a_yearly.mono (by decide)) (G_a_earn.mono (by decide)) (G_a_spend.mono (by decide)) (G_a_wait.mono (by decide)) (G_a_len.mono (by decide)))
  have F_law : Fun M.K "law" "law" (topS 90) _ d_law := fun_st D_law
  exact (ok_law (k := 25) F_law (G__law_deck.mono (by decide)) (G__law_pick.mono (by decide)) (G__law_one_right.mono (by decide)) (G__law_none_right.mono (by decide)) (G__law_many_right.mono (by decide)) (G__law_made_right.mono (by decide)))
end G42
open PySem PySem.W PySem.Calls PyProof.Rows
theorem PySem.Challenge.cw_lapsepoints_k19_whole_edges_holds : PySem.Challenge.rw_lapsepoints_k19_whole_edges.Holds := by
  w_on; o_law
  refine HandSHeadRun.head_any (r := G42.hdR) (q := view G42.hdR.prog [90]) (H := G42.hdK) (ob := G42.hdOb) (M := 20000) (loose := G42.hdNo) (d := HandSHeadRun.topDef G42.hdR.prog 90) (kwd := []) G42.hdOb_eq
    (by kernel_rfl) (fun s => by kernel_rfl) G42.hdRun (by kernel_rfl) (by kernel_rfl) (by kernel_rfl) (by rfl) (by first | assumption | decide +kernel) (by decide +kernel) ⟨rfl, rfl, rfl, rfl, rfl, by decide +kernel⟩ ?hw ?hc
  case hw => w_witness2
  case hc =>
    refine LamX.walk_ofTsE (l := PySem.Challenge.rw_lapsepoints_k19_whole_edges) (n := 63) (k := 26) (x := "_law_script") (CX := fun w => L2N.CX (PySem.Challenge.rw_lapsepoints_k19_whole_edges).prog w) rfl (by decide) (by kernel_rfl) ⟨rfl, by decide, by decide⟩ ?F (fun _ _ _ _ _ ⟨_, _, _, _, _, _, _, _, _, _, _, _, z⟩ => z)
    intro w mg fa h Y G hmg0
    obtain ⟨K, KX, c, cw⟩ := Y
    have hmg : mg ("law" : PySem.Str) = some (.ref fa) := by
      have e : (HandSHeadRun.topDef G42.hdR.prog 90).name = ("law" : PySem.Str) := by kernel_rfl
      rw [← e]
      exact hmg0
    obtain ⟨fd, hb, hF⟩ := G42.hdFacts (P := (PySem.Challenge.rw_lapsepoints_k19_whole_edges).prog) (w := w) KX G hmg c.t.d (He.ba c.more).1 cw (He.ba c.more).2
    exact ⟨K, KX, fd, G42.hdTf.map (He.cT K), Dl.liftSp K (G42.spLawT (He.cT K ("best_range", none)).2 (He.cT K ("fit_life", none)).2 (He.cT K ("range_for", none)).2 (He.cT K ("fit_amount", none)).2 (He.cT K ("fit_earning", none)).2), fun p hp => (by obtain ⟨q, hq, rfl⟩ := List.mem_map.mp hp; exact c.empty q hq), fun p hp => (by obtain ⟨q, hq, rfl⟩ := List.mem_map.mp hp; exact c.out q hq), fun p hp => (by obtain ⟨q, hq, rfl⟩ := List.mem_map.mp hp; exact codeHd_of_K KX (c.hd q hq)), hb,
      fun H a ns hl hbits hT hS => G42.law_dataT [((He.cT K ("best_range", none)).2, G42.qBest), ((He.cT K ("fit_life", none)).2, G42.qFit), ((He.cT K ("range_for", none)).2, G42.qRange), ((He.cT K ("fit_amount", none)).2, G42.qAmount), ((He.cT K ("fit_earning", none)).2, G42.qEarning)] (fun p hp => by
        simp only [List.mem_cons, List.not_mem_nil, or_false] at hp
        rcases hp with rfl | rfl | rfl | rfl | rfl
        all_goals exact hT (He.cT K (_, none)) (List.mem_map_of_mem (by first | exact List.mem_cons_self | exact List.mem_cons_of_mem _ List.mem_cons_self | exact List.mem_cons_of_mem _ (List.mem_cons_of_mem _ List.mem_cons_self) | exact List.mem_cons_of_mem _ (List.mem_cons_of_mem _ (List.mem_cons_of_mem _ List.mem_cons_self)) | exact List.mem_cons_of_mem _ (List.mem_cons_of_mem _ (List.mem_cons_of_mem _ (List.mem_cons_of_mem _ List.mem_cons_self))) | exact List.mem_cons_of_mem _ (List.mem_cons_of_mem _ (List.mem_cons_of_mem _ (List.mem_cons_of_mem _ (List.mem_cons_of_mem _ List.mem_cons_self))))))) (of_decide_eq_true (He.ba (He.ba c.more).1).2) hS (G42.law_askT ns hl hbits), fun base h1 h2 h3 => hF base h1 h2 fun p hp => h3 _ (List.mem_map_of_mem hp)⟩
