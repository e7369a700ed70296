import PyProof.Rows.All
import Wide.All
import OpenK.AllK
import Wide.FinOn
import HandS.ForMost
import HandS.TupAny
import HandS.Wide
import HandS.IsInst
import HandS.Flow
import KE.KTupSum
import HandS.Deep
import HandS.Zip
import KE.GoesEnum
import HandS.Defaults
import HandS.OwnEq
import PyProof.InstNe
import KE.KFmtOwn
import HandS.Style
import HandS.HeadHook1
import HandS.HeadHook2
import HandS.Codes
import KE.KStateDown
import HandS.Head0
import HandS.Head1
import HandS.Head2
import HandS.HeadEnd
import HandS.HeadHook3
import HandS.HeadHook4
import PySem.Challenge.RW_spanalike_k17_whole_products_plain_and_t
set_option Elab.async false
set_option linter.all false
set_option maxRecDepth 100000
set_option maxHeartbeats 0
namespace PL
open PySem L2

/-- the program's classes whose instances are data: their attributes in the order in which they are stored -/
def ct : Nat → Str × List Str
  | 0 => ("Strip", ["numbers", "length", "total", "is_lot", "marks"])
  | 1 => ("Row", ["numbers", "many", "total", "is_lot", "marks"])
  | 2 => ("Scan", ["parts_told", "spot"])
  | 3 => ("Book", ["many", "sayings"])
  | 4 => ("HeardDistance", ["distance", "kind", "number"])
  | 5 => ("HeardSize", ["kind", "number"])
  | 6 => ("HeardPiece", ["piece", "kind", "number"])
  | 7 => ("HeardSum", ["pairs", "kind", "number"])
  | 8 => ("MarkedBeat", ["beat"])
  | 9 => ("FreeBeat", ["beat"])
  | 10 => ("Shelf", ["things", "names"])
  | 11 => ("Desk", ["shelf", "story", "earlier", "undone"])
  | 12 => ("Always", ["word", "parts", "many"])
  | 13 => ("Asked", ["word", "parts", "distance", "most"])
  | 14 => ("Bent", ["word", "parts", "one", "other"])
  | 15 => ("BentTogether", ["word", "parts", "one", "other"])
  | 16 => ("Bridge", ["word", "parts", "numbers", "by"])
  | 17 => ("CountsBar", ["word", "parts", "kind", "number"])
  | 18 => ("Deaf", ["word", "parts", "divisor", "one", "other"])
  | 19 => ("Deep", ["word", "parts", "order"])
  | 20 => ("Denial", ["word", "parts"])
  | 21 => ("Equals", ["word", "parts", "one", "other"])
  | 22 => ("Even", ["word", "parts", "turn"])
  | 23 => ("Factors", ["word", "parts", "common", "rest", "sign"])
  | 24 => ("Family", ["word", "parts", "lots", "bridges"])
  | 25 => ("Flat", ["word", "parts", "number"])
  | 26 => ("FlatTogether", ["word", "parts", "number"])
  | 27 => ("HasLot", ["word", "parts", "lot"])
  | 28 => ("Hush", ["word", "parts", "number"])
  | 29 => ("HushBar", ["word", "parts", "kind", "number"])
  | 30 => ("Kin", ["word", "parts", "lot"])
  | 31 => ("Known", ["word", "parts", "lot"])
  | 32 => ("LotKept", ["word", "parts", "lot"])
  | 33 => ("Loud", ["word", "parts", "distance"])
  | 34 => ("MoreWrong", ["word", "parts"])
  | 35 => ("MostThin", ["word", "parts", "lot", "reason"])
  | 36 => ("Never", ["word", "parts", "many"])
  | 37 => ("NoFlat", ["word", "parts", "reason"])
  | 38 => ("NoLot", ["word", "parts"])
  | 39 => ("NoLotKept", ["word", "parts", "numbers"])
  | 40 => ("NoQuotient", ["word", "parts", "divisor"])
  | 41 => ("OneWrong", ["word", "parts", "rows"])
  | 42 => ("Open", ["word", "parts", "one", "other"])
  | 43 => ("Paper", ["word", "parts"])
  | 44 => ("Quotient", ["word", "parts", "numbers", "by"])
  | 45 => ("Right", ["word", "parts", "lot"])
  | 46 => ("SamePieces", ["word", "parts", "size"])
  | 47 => ("StripBar", ["word", "parts", "kind", "number"])
  | 48 => ("Telling", ["word", "parts", "distances", "rivals"])
  | 49 => ("TellsAll", ["word", "parts", "numbers"])
  | 50 => ("TogetherBar", ["word", "parts", "kind", "number"])
  | 51 => ("Told", ["word", "parts", "size", "rivals"])
  | 52 => ("Undoing", ["word", "parts", "numbers", "by"])
  | 53 => ("Uneven", ["word", "parts", "total", "greatest"])
  | 54 => ("UnlikeDistance", ["word", "parts", "distance"])
  | 55 => ("UnlikePiece", ["word", "parts", "piece", "here", "there"])
  | 56 => ("UnlikeSpan", ["word", "parts", "beat"])
  | _ => ("", [])

/-- a value as data -/
inductive D where
  | non | bl (b : Bool) | int (i : Int) | str (x : Str)
  | lst (xs : List D) | tup (xs : List D)
  | dct (kvs : List (Key × D))
  | dcT (kvs : List (List Key × D))
  | ins (c : Nat) (xs : List D)
  | cst (v : V)
  /-- the script -/
  | scr (ns : List Int)

/-- what a slot of the frame holds: nothing known; a value that nobody changes; an object that this slot alone leads to -/
inductive Sl where
  | un | sh (d : D) | ow (d : D)
/-- what an expression gives: a shared value, a new object, the object of a slot -/
inductive Rv where
  | sh (d : D) | fr (d : D) | bo (i : Nat)

structure Gc where
  K : PySem.W.Frag
  mg : Str → Option Value

variable (G : Gc)

def LstAt (O : Addr → Prop) (H : Hp) (a : Addr) (vs : List V) : Prop :=
  (Rd H a (.lst vs) ∧ ¬ O a) ∨
    ∃ (o : Obj) (its : Array Value) (n : Nat), G.K.lookup a = some o ∧ o.cls = .type "list" ∧ o.dict = none ∧ o.data = .seq its n ∧ its.size ≤ sizeLine ∧ Vals vs its.toList
def TupAt (O : Addr → Prop) (H : Hp) (a : Addr) (vs : List V) : Prop :=
  (Rd H a (.tup vs) ∧ ¬ O a) ∨
    ∃ (o : Obj) (its : Array Value) (n : Nat), G.K.lookup a = some o ∧ o.cls = .type "tuple" ∧ o.data = .seq its n ∧ its.size ≤ sizeLine ∧ Vals vs its.toList

mutual
/-- the value v, in the heap H, is the data d, and no object of it is one of O -/
inductive Rep (O : Addr → Prop) (H : Hp) : V → D → Prop
  | non : Rep O H .non .non
  | bl (b : Bool) : Rep O H (.bl b) (.bl b)
  | int (i : Int) : Rep O H (.int i) (.int i)
  | str (x : Str) : Rep O H (.str x) (.str x)
  | cst (v : V) : Rep O H v (.cst v)
  | lst {a : Addr} {vs : List V} {ds : List D} (ho : ¬ O a) (h : H a = some (.lst vs)) (r : Reps O H vs ds) : Rep O H (.ref a) (.lst ds)
  | scr {a : Addr} {ns : List Int} (h : LstAt G O H a (ns.map V.int)) : Rep O H (.ref a) (.scr ns)
  | tup {a : Addr} {vs : List V} {ds : List D} (h : TupAt G O H a vs) (r : Reps O H vs ds) : Rep O H (.ref a) (.tup ds)
  | ins {a C dx : Addr} {c : Nat} {fvs : List (Str × V)} {ds : List D} (hc : G.mg (ct c).1 = some (.ref C)) (ho : ¬ O a) (h : H a = some (.ins C dx fvs)) (hk : fvs.map (·.1) = (ct c).2.take ds.length)
      (r : Reps O H (fvs.map (·.2)) ds) : Rep O H (.ref a) (.ins c ds)
  | dct {a : Addr} {kvs : List (Key × V)} {ds : List (Key × D)} (ho : ¬ O a) (h : H a = some (.dK kvs)) (hk : kvs.map (·.1) = ds.map (·.1)) (r : Reps O H (kvs.map (·.2)) (ds.map (·.2))) : Rep O H (.ref a) (.dct ds)
  | dcT {a : Addr} {kvs : List (List Key × V)} {ds : List (List Key × D)} (ho : ¬ O a) (h : H a = some (.dT kvs)) (hk : kvs.map (·.1) = ds.map (·.1)) (r : Reps O H (kvs.map (·.2)) (ds.map (·.2))) : Rep O H (.ref a) (.dcT ds)
inductive Reps (O : Addr → Prop) (H : Hp) : List V → List D → Prop
  | nil : Reps O H [] []
  | cons {v : V} {d : D} {vs : List V} {ds : List D} (h : Rep O H v d) (t : Reps O H vs ds) : Reps O H (v :: vs) (d :: ds)
end

section
variable {G : Gc} {O O' : Addr → Prop} {H H' : Hp} {a : Addr} {vs : List V}
theorem Rd.keep {u : HO} (h : Rd H a u) (k : ∀ o, H a = some o → H' a = some o) : Rd H' a u := by
  rcases h with h | ⟨o, h⟩
  · exact .inl (k _ h)
  · exact .inr ⟨o, k _ h⟩
theorem Rd.some {u : HO} (h : Rd H a u) : H a ≠ none := by
  rcases h with h | ⟨o, h⟩ <;> rw [h] <;> intro z <;> cases z
/-- what stands stays: tracked objects that are not O's keep their content, what comes into O is new -/
structure Kp (O : Addr → Prop) (H : Hp) (O' : Addr → Prop) (H' : Hp) : Prop where
  at_ : ∀ b o, H b = some o → ¬ O b → H' b = some o
  new : ∀ b, O' b → O b ∨ H b = none
theorem Kp.out (k : Kp O H O' H') {b : Addr} (h : H b ≠ none) (n : ¬ O b) : ¬ O' b := fun z => (k.new b z).elim n h
theorem LstAt.keep (k : Kp O H O' H') (h : LstAt G O H a vs) : LstAt G O' H' a vs := by
  rcases h with ⟨h, n⟩ | h
  · exact .inl ⟨Rd.keep h fun o e => k.at_ a o e n, k.out (Rd.some h) n⟩
  · exact .inr h
theorem TupAt.keep (k : Kp O H O' H') (h : TupAt G O H a vs) : TupAt G O' H' a vs := by
  rcases h with ⟨h, n⟩ | h
  · exact .inl ⟨Rd.keep h fun o e => k.at_ a o e n, k.out (Rd.some h) n⟩
  · exact .inr h
mutual
theorem Rep.keep (k : Kp O H O' H') : ∀ {v : V} {d : D}, Rep G O H v d → Rep G O' H' v d
  | _, _, .non => .non
  | _, _, .bl b => .bl b
  | _, _, .int i => .int i
  | _, _, .str x => .str x
  | _, _, .cst v => .cst v
  | _, _, .lst ho h r => .lst (k.out (by rw [h]; intro z; cases z) ho) (k.at_ _ _ h ho) (Reps.keep k r)
  | _, _, .scr h => .scr (h.keep k)
  | _, _, .tup h r => .tup (h.keep k) (Reps.keep k r)
  | _, _, .ins hc ho h hk r => .ins hc (k.out (by rw [h]; intro z; cases z) ho) (k.at_ _ _ h ho) hk (Reps.keep k r)
  | _, _, .dct ho h hk r => .dct (k.out (by rw [h]; intro z; cases z) ho) (k.at_ _ _ h ho) hk (Reps.keep k r)
  | _, _, .dcT ho h hk r => .dcT (k.out (by rw [h]; intro z; cases z) ho) (k.at_ _ _ h ho) hk (Reps.keep k r)
theorem Reps.keep (k : Kp O H O' H') : ∀ {vs : List V} {ds : List D}, Reps G O H vs ds → Reps G O' H' vs ds
  | _, _, .nil => .nil
  | _, _, .cons h t => .cons (Rep.keep k h) (Reps.keep k t)
end
theorem Kp.refl : Kp O H O H := ⟨fun _ _ h _ => h, fun _ h => .inl h⟩
theorem Kp.less (h : ∀ b, O' b → O b) : Kp O H O' H := ⟨fun _ _ h _ => h, fun b z => .inl (h b z)⟩
theorem Kp.laid {p : Addr} {o : HO} (hp : H p = none) : Kp O H O (upd H p o) := ⟨fun b u e _ => by rw [upd_ne (ne_of_none e hp)]; exact e, fun _ h => .inl h⟩
theorem Kp.laidO {p : Addr} {o : HO} (hp : H p = none) : Kp O H (fun b => O b ∨ b = p) (upd H p o) :=
  ⟨fun b u e _ => by rw [upd_ne (ne_of_none e hp)]; exact e, fun b h => h.elim .inl fun z => .inr (by rw [z]; exact hp)⟩
theorem Kp.wrote {p : Addr} {o : HO} (hp : O p) : Kp O H O (upd H p o) := ⟨fun b u e n => by rw [upd_ne (fun z => n (by rw [z]; exact hp))]; exact e, fun _ h => .inl h⟩
theorem Reps.length : ∀ {vs : List V} {ds : List D}, Reps G O H vs ds → vs.length = ds.length
  | _, _, .nil => rfl
  | _, _, .cons _ t => by rw [List.length_cons, List.length_cons, Reps.length t]
theorem Reps.get : ∀ {vs : List V} {ds : List D} {i : Nat} {d : D}, Reps G O H vs ds → ds[i]? = some d → ∃ v, vs[i]? = some v ∧ Rep G O H v d
  | _, _, _, _, .nil, h => by simp at h
  | _, _, 0, _, .cons h _, e => by simp at e; subst e; exact ⟨_, rfl, h⟩
  | _, _, i + 1, _, .cons _ t, e => by
    obtain ⟨v, h1, h2⟩ := Reps.get (i := i) t (by simpa using e)
    exact ⟨v, by simpa using h1, h2⟩
theorem Reps.getV : ∀ {vs : List V} {ds : List D} {i : Nat} {v : V}, Reps G O H vs ds → vs[i]? = some v → ∃ d, ds[i]? = some d ∧ Rep G O H v d
  | _, _, _, _, .nil, h => by simp at h
  | _, _, 0, _, .cons h _, e => by simp at e; subst e; exact ⟨_, rfl, h⟩
  | _, _, i + 1, _, .cons _ t, e => by
    obtain ⟨v, h1, h2⟩ := Reps.getV (i := i) t (by simpa using e)
    exact ⟨v, by simpa using h1, h2⟩
theorem Reps.app : ∀ {vs ws : List V} {ds es : List D}, Reps G O H vs ds → Reps G O H ws es → Reps G O H (vs ++ ws) (ds ++ es)
  | _, _, _, _, .nil, s => s
  | _, _, _, _, .cons h t, s => .cons h (Reps.app t s)
theorem Reps.set {v : V} {d : D} (r : Rep G O H v d) : ∀ {vs : List V} {ds : List D} (i : Nat), Reps G O H vs ds → Reps G O H (vs.set i v) (ds.set i d)
  | _, _, _, .nil => .nil
  | _, _, 0, .cons _ t => .cons r t
  | _, _, i + 1, .cons q t => .cons q (Reps.set r i t)
theorem Reps.take : ∀ {vs : List V} {ds : List D} (n : Nat), Reps G O H vs ds → Reps G O H (vs.take n) (ds.take n)
  | _, _, 0, _ => .nil
  | _, _, _ + 1, .nil => .nil
  | _, _, n + 1, .cons h t => .cons h (Reps.take n t)
theorem Reps.drop : ∀ {vs : List V} {ds : List D} (n : Nat), Reps G O H vs ds → Reps G O H (vs.drop n) (ds.drop n)
  | _, _, 0, r => r
  | _, _, _ + 1, .nil => .nil
  | _, _, n + 1, .cons _ t => Reps.drop n t
theorem Reps.rev : ∀ {vs : List V} {ds : List D}, Reps G O H vs ds → Reps G O H vs.reverse ds.reverse
  | _, _, .nil => .nil
  | _, _, .cons h t => by rw [List.reverse_cons, List.reverse_cons]; exact (Reps.rev t).app (.cons h .nil)
end

/-- the object at a, that one slot alone leads to, is d -/
def OwnD (O : Addr → Prop) (H : Hp) (a : Addr) : D → Prop
  | .lst ds => ∃ vs, H a = some (.lst vs) ∧ Reps G O H vs ds
  | .dct ds => ∃ kvs, H a = some (.dK kvs) ∧ kvs.map (·.1) = ds.map (·.1) ∧ Reps G O H (kvs.map (·.2)) (ds.map (·.2))
  | .dcT ds => ∃ kvs, H a = some (.dT kvs) ∧ kvs.map (·.1) = ds.map (·.1) ∧ Reps G O H (kvs.map (·.2)) (ds.map (·.2))
  | .ins c ds => ∃ (C dx : Addr) (fvs : List (Str × V)), G.mg (ct c).1 = some (.ref C) ∧ H a = some (.ins C dx fvs) ∧ fvs.map (·.1) = (ct c).2.take ds.length ∧ Reps G O H (fvs.map (·.2)) ds
  | _ => False

def SlR (O : Addr → Prop) (H : Hp) (ov : Option (Option V)) : Sl → Prop
  | .un => True
  | .sh d => ∃ v, ov = some (some v) ∧ Rep G O H v d
  | .ow d => ∃ a, ov = some (some (.ref a)) ∧ O a ∧ OwnD G O H a d

/-- the addresses of the slots' own objects -/
def SS (σ : St) (Γ : List Sl) (b : Addr) : Prop := ∃ (i : Nat) (d : D), Γ[i]? = some (.ow d) ∧ σ[i]? = some (some (.ref b))

structure EnvR (O : Addr → Prop) (H : Hp) (σ : St) (Γ : List Sl) : Prop where
  len : σ.length = Γ.length
  sl : ∀ (i : Nat) (s : Sl), Γ[i]? = some s → SlR G O H (σ[i]?) s
  uni : ∀ (i j : Nat) (a : Addr) (d e : D), Γ[i]? = some (.ow d) → Γ[j]? = some (.ow e) → σ[i]? = some (some (.ref a)) → σ[j]? = some (some (.ref a)) → i = j
  trk : ∀ b, O b → H b ≠ none

/-- behind a step: what is not the slots' own stays, what is new was free -/
structure Frm (O : Addr → Prop) (H : Hp) (S : Addr → Prop) (O' : Addr → Prop) (H' : Hp) (S' : Addr → Prop) : Prop where
  at_ : ∀ b o, H b = some o → ¬ S b → H' b = some o
  new : ∀ b, O' b → O b ∨ H b = none
  old : ∀ b, O b → ¬ S b → O' b
  own : ∀ b, S' b → S b ∨ H b = none
  trk : ∀ b, H' b = none → H b = none

section
variable {G : Gc} {O O' O1 O2 : Addr → Prop} {H H' H1 H2 : Hp} {S S' S1 S2 : Addr → Prop} {σ : St} {Γ Γ' : List Sl} {a : Addr}
theorem EnvR.sub (E : EnvR G O H σ Γ) {b : Addr} (h : SS σ Γ b) : O b := by
  obtain ⟨i, d, e1, e2⟩ := h
  obtain ⟨a, ea, o, _⟩ := E.sl i _ e1
  rw [e2] at ea
  cases ea
  exact o
theorem Frm.refl : Frm O H S O H S := ⟨fun _ _ h _ => h, fun _ h => .inl h, fun _ h _ => h, fun _ h => .inl h, fun _ h => h⟩
theorem Frm.trans (t : ∀ b, O b → H b ≠ none) (a : Frm O H S O1 H1 S1) (b : Frm O1 H1 S1 O2 H2 S2) : Frm O H S O2 H2 S2 where
  at_ := fun c o h n => b.at_ c o (a.at_ c o h n) fun z => (a.own c z).elim n (by rw [h]; intro q; cases q)
  new := fun c h => (b.new c h).elim (a.new c) fun z => .inr (a.trk c z)
  old := fun c h n => b.old c (a.old c h n) fun z => (a.own c z).elim n (t c h)
  own := fun c h => (b.own c h).elim (a.own c) fun z => .inr (a.trk c z)
  trk := fun c h => a.trk c (b.trk c h)
theorem Frm.kp (f : Frm O H S O' H' S') (h : ∀ b, S b → O b) : Kp O H O' H' := ⟨fun b o e n => f.at_ b o e fun z => n (h b z), f.new⟩
theorem OwnD.keep {d : D} (k : Kp O H O' H') (h : OwnD G O H a d) (ha : H' a = H a) : OwnD G O' H' a d := by
  cases d with
  | lst ds => obtain ⟨vs, e, r⟩ := h; exact ⟨vs, ha.trans e, r.keep k⟩
  | dct ds => obtain ⟨vs, e, q, r⟩ := h; exact ⟨vs, ha.trans e, q, r.keep k⟩
  | dcT ds => obtain ⟨vs, e, q, r⟩ := h; exact ⟨vs, ha.trans e, q, r.keep k⟩
  | ins c fs => obtain ⟨C, dx, vs, m, e, q, r⟩ := h; exact ⟨C, dx, vs, m, ha.trans e, q, r.keep k⟩
  | non => exact h
  | bl _ => exact h
  | int _ => exact h
  | str _ => exact h
  | tup _ => exact h
  | cst _ => exact h
  | scr _ => exact h
theorem OwnD.some {d : D} (h : OwnD G O H a d) : H a ≠ none := by
  cases d with
  | lst ds => obtain ⟨vs, e, r⟩ := h; rw [e]; intro z; cases z
  | dct ds => obtain ⟨vs, e, q, r⟩ := h; rw [e]; intro z; cases z
  | dcT ds => obtain ⟨vs, e, q, r⟩ := h; rw [e]; intro z; cases z
  | ins c fs => obtain ⟨C, dx, vs, m, e, q, r⟩ := h; rw [e]; intro z; cases z
  | non => exact h.elim
  | bl _ => exact h.elim
  | int _ => exact h.elim
  | str _ => exact h.elim
  | tup _ => exact h.elim
  | cst _ => exact h.elim
  | scr _ => exact h.elim
/-- given up: it is a shared value from now on -/
theorem OwnD.rep {d : D} (h : OwnD G O H a d) (n : ¬ O' a) (l : ∀ b, O' b → O b) : Rep G O' H (.ref a) d := by
  have k : Kp O H O' H := Kp.less l
  cases d with
  | lst ds => obtain ⟨vs, e, r⟩ := h; exact .lst n e (r.keep k)
  | dct ds => obtain ⟨vs, e, q, r⟩ := h; exact .dct n e q (r.keep k)
  | dcT ds => obtain ⟨vs, e, q, r⟩ := h; exact .dcT n e q (r.keep k)
  | ins c fs => obtain ⟨C, dx, vs, m, e, q, r⟩ := h; exact .ins m n e q (r.keep k)
  | non => exact h.elim
  | bl _ => exact h.elim
  | int _ => exact h.elim
  | str _ => exact h.elim
  | tup _ => exact h.elim
  | cst _ => exact h.elim
  | scr _ => exact h.elim
end
end PL

namespace PL
open PySem L2

def nth : List Sl → Nat → Sl
  | [], _ => .un
  | s :: _, 0 => s
  | _ :: r, i + 1 => nth r i
def put : List Sl → Nat → Sl → List Sl
  | [], _, _ => []
  | _ :: r, 0, t => t :: r
  | s :: r, i + 1, t => s :: put r i t
theorem put_eq : ∀ (Γ : List Sl) (i : Nat) (t : Sl), put Γ i t = Γ.set i t
  | [], _, _ => rfl
  | _ :: _, 0, _ => rfl
  | s :: r, i + 1, t => by rw [put, List.set_cons_succ, put_eq r i t]
theorem nth_get : ∀ {Γ : List Sl} {i : Nat}, nth Γ i ≠ .un → Γ[i]? = some (nth Γ i)
  | [], _, h => absurd rfl h
  | _ :: _, 0, _ => rfl
  | _ :: r, i + 1, h => by
    rw [List.getElem?_cons_succ]
    exact nth_get (Γ := r) (i := i) h
theorem nth_sh {Γ : List Sl} {i : Nat} {d : D} (h : nth Γ i = .sh d) : Γ[i]? = some (.sh d) := by rw [← h]; exact nth_get (by rw [h]; intro z; cases z)
theorem nth_ow {Γ : List Sl} {i : Nat} {d : D} (h : nth Γ i = .ow d) : Γ[i]? = some (.ow d) := by rw [← h]; exact nth_get (by rw [h]; intro z; cases z)

section
variable (G : Gc)
/-- a value that is held while more is evaluated -/
def Held (O : Addr → Prop) (H : Hp) (σ : St) (Γ : List Sl) (v : V) : Rv → Prop
  | .sh d => Rep G O H v d
  | .fr d => ∃ a, v = .ref a ∧ O a ∧ ¬ SS σ Γ a ∧ OwnD G O H a d
  | .bo i => σ[i]? = some (some v)
/-- a value that is read as data -/
def Vw (O : Addr → Prop) (H : Hp) (v : V) (d : D) : Prop := Rep G O H v d ∨ ∃ a, v = .ref a ∧ OwnD G O H a d
structure TPost (O : Addr → Prop) (H : Hp) (σ : St) (Γ : List Sl) (O' : Addr → Prop) (H' : Hp) (Γ' : List Sl) : Prop where
  frm : Frm O H (SS σ Γ) O' H' (SS σ Γ')
  env : EnvR G O' H' σ Γ'
structure EPost (O : Addr → Prop) (H : Hp) (σ : St) (Γ : List Sl) (O' : Addr → Prop) (H' : Hp) (Γ' : List Sl) (v : V) (r : Rv) : Prop where
  frm : Frm O H (SS σ Γ) O' H' (SS σ Γ')
  env : EnvR G O' H' σ Γ'
  held : Held G O' H' σ Γ' v r
  fresh : ∀ d a, r = .fr d → v = .ref a → H a = none
structure APost (O : Addr → Prop) (H : Hp) (σ : St) (Γ : List Sl) (O' : Addr → Prop) (H' : Hp) (Γ' : List Sl) (vs : List V) (rs : List Rv) : Prop where
  frm : Frm O H (SS σ Γ) O' H' (SS σ Γ')
  env : EnvR G O' H' σ Γ'
  helds : Paired (Held G O' H' σ Γ') vs rs
structure SPost (B : Nat → Prop) (O : Addr → Prop) (H : Hp) (σ : St) (Γ : List Sl) (O' : Addr → Prop) (H' : Hp) (σ' : St) (Γ' : List Sl) : Prop where
  frm : Frm O H (SS σ Γ) O' H' (SS σ' Γ')
  env : EnvR G O' H' σ' Γ'
  ref : ∀ i, B i → σ'[i]? = σ[i]?
  len : σ'.length = σ.length
structure RPost (B : Nat → Prop) (O : Addr → Prop) (H : Hp) (σ : St) (Γ : List Sl) (O' : Addr → Prop) (H' : Hp) (σ' : St) (Γ' : List Sl) (v : V) (r : Rv) : Prop where
  sp : SPost G B O H σ Γ O' H' σ' Γ'
  held : Held G O' H' σ' Γ' v r
  fresh : ∀ d a, r = .fr d → v = .ref a → H a = none
end

abbrev PEt := List Sl → (Rv → List Sl → Prop) → Prop
abbrev PTt := List Sl → (Bool → List Sl → Prop) → Prop
abbrev PAt := List Sl → (List Rv → List Sl → Prop) → Prop
structure PEnds where
  nx : List Sl → Prop
  rt : Rv → List Sl → Prop
  bk : List Sl → Prop := fun _ => False
  ct : List Sl → Prop := fun _ => False
abbrev PSt := PEnds → List Sl → Prop

section
variable (G : Gc)
def lift (t : PEt) : TE := fun σ H Q => ∃ O Γ Q0, EnvR G O H σ Γ ∧ t Γ Q0 ∧ ∀ r Γ', Q0 r Γ' → ∀ v H' O', EPost G O H σ Γ O' H' Γ' v r → Q v H'
def liftT (t : PTt) : TT := fun σ H Q => ∃ O Γ Q0, EnvR G O H σ Γ ∧ t Γ Q0 ∧ ∀ b Γ', Q0 b Γ' → ∀ H' O', TPost G O H σ Γ O' H' Γ' → Q b H'
def liftA (t : PAt) : TA := fun σ H Q => ∃ O Γ Q0, EnvR G O H σ Γ ∧ t Γ Q0 ∧ ∀ ds Γ', Q0 ds Γ' → ∀ vs H' O', APost G O H σ Γ O' H' Γ' vs ds → Q vs H'
structure EndsOk (B : Nat → Prop) (O : Addr → Prop) (H : Hp) (σ : St) (Γ : List Sl) (P : PEnds) (D : Ends) : Prop where
  nx : ∀ Γ', P.nx Γ' → ∀ σ' H' O', SPost G B O H σ Γ O' H' σ' Γ' → D.nx σ' H'
  rt : ∀ r Γ', P.rt r Γ' → ∀ v σ' H' O', RPost G B O H σ Γ O' H' σ' Γ' v r → D.rt v H'
  bk : ∀ Γ', P.bk Γ' → ∀ σ' H' O', SPost G B O H σ Γ O' H' σ' Γ' → D.bk σ' H'
  ct : ∀ Γ', P.ct Γ' → ∀ σ' H' O', SPost G B O H σ Γ O' H' σ' Γ' → D.ct σ' H'
def liftS (B : Nat → Prop) (t : PSt) : TS := fun D σ H => ∃ O Γ P, EnvR G O H σ Γ ∧ t P Γ ∧ EndsOk G B O H σ Γ P D
end

abbrev gc (X : Cx) : Gc := ⟨X.K, X.mg⟩
def QE (X : Cx) (e : Expr) (t : PEt) : Prop := PE X e (lift (gc X) t)
def QT (X : Cx) (e : Expr) (t : PTt) : Prop := PT X e (liftT (gc X) t)
def QW (X : Cx) (e : Expr) (t : PTt) : Prop := PW X e (liftT (gc X) t)
def QA (X : Cx) (es : List Expr) (t : PAt) : Prop := PA X es (liftA (gc X) t)
def QS (X : Cx) (B : Nat → Prop) (st : Stmt) (t : PSt) : Prop := PS X st (liftS (gc X) B t)
def QSs (X : Cx) (B : Nat → Prop) (st : List Stmt) (t : PSt) : Prop := PSs X st (liftS (gc X) B t)

theorem PE.weak {X : Cx} {e : Expr} {t t' : TE} (h : PE X e t) (k : ∀ σ H Q, t' σ H Q → t σ H Q) : PE X e t' := ⟨fun pins s σ H Q I q => h.run pins s σ H Q I (k _ _ _ q)⟩
theorem PT.weak {X : Cx} {e : Expr} {t t' : TT} (h : PT X e t) (k : ∀ σ H Q, t' σ H Q → t σ H Q) : PT X e t' := ⟨fun pins s σ H Q I q => h.run pins s σ H Q I (k _ _ _ q)⟩
theorem PW.weak {X : Cx} {e : Expr} {t t' : TT} (h : PW X e t) (k : ∀ σ H Q, t' σ H Q → t σ H Q) : PW X e t' := ⟨fun wh pins s σ H Q I q => h.run wh pins s σ H Q I (k _ _ _ q)⟩
theorem PA.weak {X : Cx} {es : List Expr} {t t' : TA} (h : PA X es t) (k : ∀ σ H Q, t' σ H Q → t σ H Q) : PA X es t' := ⟨fun pos pins s σ H Q I q => h.run pos pins s σ H Q I (k _ _ _ q)⟩
theorem PS.weak {X : Cx} {st : Stmt} {t t' : TS} (h : PS X st t) (k : ∀ D σ H, t' D σ H → t D σ H) : PS X st t' := ⟨fun pins s σ H D I q => h.run pins s σ H D I (k _ _ _ q)⟩
theorem PSs.weak {X : Cx} {st : List Stmt} {t t' : TS} (h : PSs X st t) (k : ∀ D σ H, t' D σ H → t D σ H) : PSs X st t' := ⟨fun pins s σ H D I q => h.run pins s σ H D I (k _ _ _ q)⟩

section
variable {G : Gc} {O O' O1 O2 : Addr → Prop} {H H' H1 H2 : Hp} {σ σ' : St} {Γ Γ' Γ1 Γ2 : List Sl} {a : Addr} {v : V} {r : Rv} {B : Nat → Prop}

theorem SS.at {b : Addr} (E : EnvR G O H σ Γ) (h : SS σ Γ b) : H b ≠ none := by
  obtain ⟨i, d, e1, e2⟩ := h
  obtain ⟨a, ea, o, w⟩ := E.sl i _ e1
  rw [e2] at ea
  cases ea
  exact w.some
/-- a step's frame keeps all that is no slot's own -/
theorem Frm.kpE {S' : Addr → Prop} (f : Frm O H (SS σ Γ) O' H' S') (E : EnvR G O H σ Γ) : Kp O H O' H' := f.kp fun _ z => E.sub z
theorem Rep.frm {S' : Addr → Prop} {d : D} (h : Rep G O H v d) (E : EnvR G O H σ Γ) (f : Frm O H (SS σ Γ) O' H' S') : Rep G O' H' v d := h.keep (f.kpE E)
theorem Reps.frm {S' : Addr → Prop} {vs : List V} {ds : List D} (h : Reps G O H vs ds) (E : EnvR G O H σ Γ) (f : Frm O H (SS σ Γ) O' H' S') : Reps G O' H' vs ds := h.keep (f.kpE E)
theorem Held.frm (h : Held G O H σ Γ v r) (E : EnvR G O H σ Γ) (f : Frm O H (SS σ Γ) O' H' (SS σ Γ')) : Held G O' H' σ Γ' v r := by
  cases r with
  | sh d => exact Rep.frm h E f
  | bo i => exact h
  | fr d =>
    obtain ⟨a, e, o, n, w⟩ := h
    have ha : H a ≠ none := w.some
    cases q : H a with
    | none => exact absurd q ha
    | some u =>
      refine ⟨a, e, f.old a o n, fun z => (f.own a z).elim n ha, w.keep (f.kpE E) ?_⟩
      rw [q]
      exact f.at_ a u q n
theorem Helds.frm {vs : List V} {rs : List Rv} (h : Paired (Held G O H σ Γ) vs rs) (E : EnvR G O H σ Γ) (f : Frm O H (SS σ Γ) O' H' (SS σ Γ')) : Paired (Held G O' H' σ Γ') vs rs := L2.Paired.mapP h fun _ _ z => z.frm E f
theorem TPost.refl (E : EnvR G O H σ Γ) : TPost G O H σ Γ O H Γ := ⟨.refl, E⟩
theorem TPost.trans (E : EnvR G O H σ Γ) (a : TPost G O H σ Γ O1 H1 Γ1) (b : TPost G O1 H1 σ Γ1 O2 H2 Γ2) : TPost G O H σ Γ O2 H2 Γ2 := ⟨a.frm.trans E.trk b.frm, b.env⟩
theorem EPost.t (p : EPost G O H σ Γ O' H' Γ' v r) : TPost G O H σ Γ O' H' Γ' := ⟨p.frm, p.env⟩
theorem EPost.after (E : EnvR G O H σ Γ) (a : TPost G O H σ Γ O1 H1 Γ1) (b : EPost G O1 H1 σ Γ1 O2 H2 Γ2 v r) : EPost G O H σ Γ O2 H2 Γ2 v r :=
  ⟨a.frm.trans E.trk b.frm, b.env, b.held, fun d x e1 e2 => a.frm.trk x (b.fresh d x e1 e2)⟩
theorem APost.t {vs : List V} {rs : List Rv} (p : APost G O H σ Γ O' H' Γ' vs rs) : TPost G O H σ Γ O' H' Γ' := ⟨p.frm, p.env⟩
/-- nothing happened but that v came -/
theorem EPost.here (E : EnvR G O H σ Γ) {d : D} (h : Rep G O H v d) : EPost G O H σ Γ O H Γ v (.sh d) := ⟨.refl, E, h, fun _ _ e _ => by cases e⟩
theorem EPost.slot (E : EnvR G O H σ Γ) {i : Nat} (h : σ[i]? = some (some v)) : EPost G O H σ Γ O H Γ v (.bo i) := ⟨.refl, E, h, fun _ _ e _ => by cases e⟩

theorem SlR.keep {ov : Option (Option V)} {s : Sl} (k : Kp O H O' H') (h : SlR G O H ov s) (ho : ∀ a d, s = .ow d → ov = some (some (.ref a)) → O' a ∧ H' a = H a) : SlR G O' H' ov s := by
  cases s with
  | un => trivial
  | sh d => obtain ⟨v, e, r⟩ := h; exact ⟨v, e, r.keep k⟩
  | ow d =>
    obtain ⟨a, e, o, w⟩ := h
    obtain ⟨o', e'⟩ := ho a d rfl e
    exact ⟨a, e, o', w.keep k e'⟩
/-- the whole environment stands while its own objects do -/
theorem EnvR.keep (E : EnvR G O H σ Γ) (k : Kp O H O' H') (hs : ∀ b, SS σ Γ b → O' b ∧ H' b = H b) (t : ∀ b, O' b → H' b ≠ none) : EnvR G O' H' σ Γ :=
  ⟨E.len, fun i s e => (E.sl i s e).keep k fun a d es ev => by subst es; exact hs a ⟨i, d, e, ev⟩, E.uni, t⟩
/-- a new immutable (or shared) object -/
theorem EnvR.laid (E : EnvR G O H σ Γ) {p : Addr} {o : HO} (hp : H p = none) : EnvR G O (upd H p o) σ Γ := by
  refine E.keep (Kp.laid hp) (fun b hb => ⟨E.sub hb, upd_ne fun z => ?_⟩) fun b hb z => ?_
  · rw [z] at hb; exact SS.at E hb hp
  · by_cases hbp : b = p
    · rw [hbp, upd_same] at z; cases z
    · rw [upd_ne hbp] at z; exact E.trk b hb z
theorem EnvR.laidO (E : EnvR G O H σ Γ) {p : Addr} {o : HO} (hp : H p = none) : EnvR G (fun b => O b ∨ b = p) (upd H p o) σ Γ := by
  refine E.keep (Kp.laidO hp) (fun b hb => ⟨.inl (E.sub hb), upd_ne fun z => ?_⟩) fun b hb z => ?_
  · rw [z] at hb; exact SS.at E hb hp
  · by_cases hbp : b = p
    · rw [hbp, upd_same] at z; cases z
    · rw [upd_ne hbp] at z; exact E.trk b (hb.resolve_right hbp) z
theorem Frm.laid {p : Addr} {o : HO} {S : Addr → Prop} (hp : H p = none) : Frm O H S O (upd H p o) S :=
  ⟨fun b u e _ => by rw [upd_ne (ne_of_none e hp)]; exact e, fun _ h => .inl h, fun _ h _ => h, fun _ h => .inl h, fun b h => by
    by_cases hb : b = p
    · rw [hb]; exact hp
    · rw [upd_ne hb] at h; exact h⟩
theorem Frm.laidO {p : Addr} {o : HO} {S : Addr → Prop} (hp : H p = none) : Frm O H S (fun b => O b ∨ b = p) (upd H p o) S :=
  ⟨fun b u e _ => by rw [upd_ne (ne_of_none e hp)]; exact e, fun b h => h.elim .inl fun z => .inr (by rw [z]; exact hp), fun _ h _ => .inl h, fun _ h => .inl h, fun b h => by
    by_cases hb : b = p
    · rw [hb]; exact hp
    · rw [upd_ne hb] at h; exact h⟩
/-- a new tuple -/
theorem EPost.newTup (E : EnvR G O H σ Γ) {p : Addr} {vs : List V} {ds : List D} (hp : H p = none) (r : Reps G O H vs ds) : EPost G O H σ Γ O (upd H p (.tup vs)) Γ (.ref p) (.sh (.tup ds)) :=
  ⟨.laid hp, E.laid hp, .tup (.inl ⟨.inl upd_same, fun z => E.trk p z hp⟩) (r.keep (Kp.laid hp)), fun _ _ e _ => by cases e⟩
/-- a new list -/
theorem EPost.newLst (E : EnvR G O H σ Γ) {p : Addr} {vs : List V} {ds : List D} (hp : H p = none) (r : Reps G O H vs ds) : EPost G O H σ Γ (fun b => O b ∨ b = p) (upd H p (.lst vs)) Γ (.ref p) (.fr (.lst ds)) :=
  ⟨.laidO hp, E.laidO hp, ⟨p, rfl, .inr rfl, fun z => SS.at E z hp, vs, upd_same, r.keep (Kp.laidO hp)⟩, fun _ a _ e => by cases e; exact hp⟩

theorem SS.put_sub {i : Nat} {d : D} {b : Addr} (h : SS σ (put Γ i (.sh d)) b) : SS σ Γ b := by
  obtain ⟨j, e, e1, e2⟩ := h
  rw [put_eq] at e1
  by_cases hj : i = j
  · subst hj
    by_cases hl : i < Γ.length
    · rw [List.getElem?_set_self hl] at e1; cases e1
    · rw [List.getElem?_eq_none (by simpa using hl)] at e1; cases e1
  · rw [List.getElem?_set_ne hj] at e1
    exact ⟨j, e, e1, e2⟩
theorem EnvR.freeze (E : EnvR G O H σ Γ) {i : Nat} {d : D} (hi : Γ[i]? = some (.ow d)) (ha : σ[i]? = some (some (.ref a))) : EnvR G (fun b => O b ∧ b ≠ a) H σ (put Γ i (.sh d)) ∧ Rep G (fun b => O b ∧ b ≠ a) H (.ref a) d := by
  obtain ⟨a', e1, o, w⟩ := E.sl i _ hi
  rw [ha] at e1
  cases e1
  have less : ∀ b, (O b ∧ b ≠ a) → O b := fun b z => z.1
  have rp : Rep G (fun b => O b ∧ b ≠ a) H (.ref a) d := w.rep (fun z => z.2 rfl) less
  have hl : i < Γ.length := (List.getElem?_eq_some_iff.mp hi).1
  refine ⟨⟨by rw [put_eq, List.length_set]; exact E.len, fun j s e => ?_, fun j k b x y e1 e2 e3 e4 => ?_, fun b z => E.trk b z.1⟩, rp⟩
  · rw [put_eq] at e
    by_cases hj : i = j
    · subst hj
      rw [List.getElem?_set_self hl] at e
      cases e
      exact ⟨.ref a, ha, rp⟩
    · rw [List.getElem?_set_ne hj] at e
      refine (E.sl j s e).keep (Kp.less less) fun b x es eb => ⟨⟨E.sub ⟨j, x, by rw [e, es], eb⟩, fun z => ?_⟩, rfl⟩
      subst z
      subst es
      exact hj (E.uni i j b d x hi e ha eb)
  · rw [put_eq] at e1 e2
    have ne : ∀ {k : Nat} {z : D}, (Γ.set i (.sh d))[k]? = some (.ow z) → Γ[k]? = some (.ow z) := fun {k z} q => by
      by_cases hk : i = k
      · subst hk; rw [List.getElem?_set_self hl] at q; cases q
      · rw [List.getElem?_set_ne hk] at q; exact q
    exact E.uni j k b x y (ne e1) (ne e2) e3 e4
/-- the value of a step, with what the step gives up so that it can be shared -/
def fzs (Γ : List Sl) (i : Nat) : Sl → (D → List Sl → Prop) → Prop
  | .sh d, k => k d Γ
  | .ow d, k => k d (put Γ i (.sh d))
  | .un, _ => False
def fz (Γ : List Sl) : Rv → (D → List Sl → Prop) → Prop
  | .sh d, k => k d Γ
  | .fr d, k => k d Γ
  | .bo i, k => fzs Γ i (nth Γ i) k
theorem EPost.fz {k : D → List Sl → Prop} (E : EnvR G O H σ Γ) (p : EPost G O H σ Γ O' H' Γ' v r) (h : fz Γ' r k) : ∃ d Γ2 O2, k d Γ2 ∧ EPost G O H σ Γ O2 H' Γ2 v (.sh d) := by
  cases r with
  | sh d => exact ⟨d, Γ', O', h, p⟩
  | fr d =>
    obtain ⟨a, e, o, n, w⟩ := p.held
    have hn := p.fresh d a rfl e
    have less : ∀ b, (O' b ∧ b ≠ a) → O' b := fun b z => z.1
    refine ⟨d, Γ', fun b => O' b ∧ b ≠ a, h, ⟨⟨p.frm.at_, fun b z => p.frm.new b z.1, fun b z q => ⟨p.frm.old b z q, fun y => E.trk b z (by rw [y]; exact hn)⟩, p.frm.own, p.frm.trk⟩, ?_, ?_, fun _ _ e _ => by cases e⟩⟩
    · exact p.env.keep (Kp.less less) (fun b hb => ⟨⟨p.env.sub hb, fun y => n (by rw [← y]; exact hb)⟩, rfl⟩) fun b z => p.env.trk b z.1
    · rw [e]; exact w.rep (fun z => z.2 rfl) less
  | bo i =>
    have hv : σ[i]? = some (some v) := p.held
    have h : fzs Γ' i (nth Γ' i) k := h
    cases q : nth Γ' i with
    | un => rw [q] at h; exact h.elim
    | sh d =>
      rw [q] at h
      obtain ⟨u, eu, ru⟩ := p.env.sl i _ (nth_sh q)
      rw [hv] at eu
      cases eu
      exact ⟨d, Γ', O', h, p.frm, p.env, ru, fun _ _ e _ => by cases e⟩
    | ow d =>
      rw [q] at h
      obtain ⟨a, ea, o, w⟩ := p.env.sl i _ (nth_ow q)
      rw [hv] at ea
      cases ea
      obtain ⟨E2, r2⟩ := p.env.freeze (nth_ow q) hv
      have hs : SS σ Γ' a := ⟨i, d, nth_ow q, hv⟩
      refine ⟨d, put Γ' i (.sh d), _, h, ⟨p.frm.at_, fun b z => p.frm.new b z.1, fun b z y => ⟨p.frm.old b z y, fun x => ?_⟩, fun b z => p.frm.own b (SS.put_sub z), p.frm.trk⟩, E2, r2, fun _ _ e _ => by cases e⟩
      subst x
      exact (p.frm.own b hs).elim y (E.trk b z)
/-- the value of a step, read -/
def wds : Sl → (D → Prop) → Prop
  | .sh d, k => k d
  | .ow d, k => k d
  | .un, _ => False
def wd (Γ : List Sl) : Rv → (D → Prop) → Prop
  | .sh d, k => k d
  | .fr d, k => k d
  | .bo i, k => wds (nth Γ i) k
theorem Held.wd {k : D → Prop} (E : EnvR G O H σ Γ) (h : Held G O H σ Γ v r) (q : wd Γ r k) : ∃ d, k d ∧ Vw G O H v d := by
  cases r with
  | sh d => exact ⟨d, q, .inl h⟩
  | fr d => obtain ⟨a, e, o, n, w⟩ := h; exact ⟨d, q, .inr ⟨a, e, w⟩⟩
  | bo i =>
    have hv : σ[i]? = some (some v) := h
    have q : wds (nth Γ i) k := q
    cases z : nth Γ i with
    | un => rw [z] at q; exact q.elim
    | sh d =>
      rw [z] at q
      obtain ⟨u, eu, ru⟩ := E.sl i _ (nth_sh z)
      rw [hv] at eu
      cases eu
      exact ⟨d, q, .inl ru⟩
    | ow d =>
      rw [z] at q
      obtain ⟨a, ea, o, w⟩ := E.sl i _ (nth_ow z)
      rw [hv] at ea
      cases ea
      exact ⟨d, q, .inr ⟨a, rfl, w⟩⟩
end
end PL

namespace PL
open PySem L2

section
variable {G : Gc} {O O' O1 O2 : Addr → Prop} {H H' H1 H2 : Hp} {σ σ' : St} {Γ Γ' Γ1 Γ2 : List Sl} {a : Addr} {v : V} {r : Rv} {B : List Nat}

theorem Vw.int {i : Int} (h : Vw G O H v (.int i)) : v = .int i := by
  rcases h with h | ⟨a, e, w⟩
  · cases h; rfl
  · exact w.elim
theorem Vw.bl {i : Bool} (h : Vw G O H v (.bl i)) : v = .bl i := by
  rcases h with h | ⟨a, e, w⟩
  · cases h; rfl
  · exact w.elim
theorem Vw.str {i : Str} (h : Vw G O H v (.str i)) : v = .str i := by
  rcases h with h | ⟨a, e, w⟩
  · cases h; rfl
  · exact w.elim
theorem Vw.non (h : Vw G O H v .non) : v = .non := by
  rcases h with h | ⟨a, e, w⟩
  · cases h; rfl
  · exact w.elim
theorem Vw.cst {u : V} (h : Vw G O H v (.cst u)) : v = u := by
  rcases h with h | ⟨a, e, w⟩
  · cases h; rfl
  · exact w.elim
theorem Vw.lst {ds : List D} (h : Vw G O H v (.lst ds)) : ∃ a vs, v = .ref a ∧ H a = some (.lst vs) ∧ Reps G O H vs ds := by
  rcases h with h | ⟨a, e, vs, ha, r⟩
  · cases h with
    | lst ho h r => exact ⟨_, _, rfl, h, r⟩
  · exact ⟨a, vs, e, ha, r⟩
theorem Vw.dct {ds : List (Key × D)} (h : Vw G O H v (.dct ds)) : ∃ a kvs, v = .ref a ∧ H a = some (.dK kvs) ∧ kvs.map (·.1) = ds.map (·.1) ∧ Reps G O H (kvs.map (·.2)) (ds.map (·.2)) := by
  rcases h with h | ⟨a, e, kvs, ha, hk, r⟩
  · cases h with
    | dct ho h hk r => exact ⟨_, _, rfl, h, hk, r⟩
  · exact ⟨a, kvs, e, ha, hk, r⟩
theorem Vw.dcT {ds : List (List Key × D)} (h : Vw G O H v (.dcT ds)) : ∃ a kvs, v = .ref a ∧ H a = some (.dT kvs) ∧ kvs.map (·.1) = ds.map (·.1) ∧ Reps G O H (kvs.map (·.2)) (ds.map (·.2)) := by
  rcases h with h | ⟨a, e, kvs, ha, hk, r⟩
  · cases h with
    | dcT ho h hk r => exact ⟨_, _, rfl, h, hk, r⟩
  · exact ⟨a, kvs, e, ha, hk, r⟩
theorem TupAt.sq {vs : List V} (h : TupAt G O H a vs) : SqT G.K H a vs := h.elim (fun z => .inl z.1) .inr
theorem Vw.tup {ds : List D} (h : Vw G O H v (.tup ds)) : ∃ a vs, v = .ref a ∧ SqT G.K H a vs ∧ Reps G O H vs ds ∧ Rep G O H v (.tup ds) := by
  rcases h with h | ⟨a, e, w⟩
  · cases id h with
    | tup h' r => exact ⟨_, _, rfl, h'.sq, r, h⟩
  · exact w.elim
theorem Vw.ins {c : Nat} {ds : List D} (h : Vw G O H v (.ins c ds)) : ∃ (a C dx : Addr) (fvs : List (Str × V)), v = .ref a ∧ G.mg (ct c).1 = some (.ref C) ∧ H a = some (.ins C dx fvs) ∧ fvs.map (·.1) = (ct c).2.take ds.length ∧ Reps G O H (fvs.map (·.2)) ds := by
  rcases h with h | ⟨a, e, C, dx, fvs, hc, ha, hk, r⟩
  · cases h with
    | ins hc ho h hk r => exact ⟨_, _, _, _, rfl, hc, h, hk, r⟩
  · exact ⟨a, C, dx, fvs, e, hc, ha, hk, r⟩
theorem Vw.scr {ns : List Int} (h : Vw G O H v (.scr ns)) : ∃ a, v = .ref a ∧ SqL G.K H a (ns.map V.int) := by
  rcases h with h | ⟨a, e, w⟩
  · cases h with
    | scr h => exact ⟨_, rfl, h.elim (fun z => .inl z.1) .inr⟩
  · exact w.elim
theorem Reps.ints : ∀ {vs : List V} {ns : List Int}, Reps G O H vs (ns.map D.int) → vs = ns.map V.int
  | [], [], _ => rfl
  | _ :: _, [], h => by cases h
  | [], _ :: _, h => by cases h
  | _ :: _, _ :: _, .cons h t => by cases h; rw [List.map_cons, Reps.ints t]
theorem Reps.bls : ∀ {vs : List V} {ns : List Bool}, Reps G O H vs (ns.map D.bl) → vs = ns.map V.bl
  | [], [], _ => rfl
  | _ :: _, [], h => by cases h
  | [], _ :: _, h => by cases h
  | _ :: _, _ :: _, .cons h t => by cases h; rw [List.map_cons, Reps.bls t]
theorem Reps.strs : ∀ {vs : List V} {ns : List Str}, Reps G O H vs (ns.map D.str) → vs = ns.map V.str
  | [], [], _ => rfl
  | _ :: _, [], h => by cases h
  | [], _ :: _, h => by cases h
  | _ :: _, _ :: _, .cons h t => by cases h; rw [List.map_cons, Reps.strs t]
theorem Reps.ofInts (ns : List Int) : Reps G O H (ns.map V.int) (ns.map D.int) := by
  induction ns with
  | nil => exact .nil
  | cons n ns ih => exact .cons (.int n) ih
end

def pVars (i : Nat) (Q : Rv → List Sl → Prop) (Γ : List Sl) : Sl → Prop
  | .sh d => Q (.sh d) Γ
  | .ow _ => Q (.bo i) Γ
  | .un => False
def pVar (i : Nat) : PEt := fun Γ Q => pVars i Q Γ (nth Γ i)
def pC (d : D) : PEt := fun Γ Q => Q (.sh d) Γ
section
variable {X : Cx} {pos : Pos}
theorem qe_var {i : Nat} {x : Str} (hN : X.N[i]? = some x) (hv : Vis X.env.scope x) (hd : (x == ("__debug__" : Str)) = false := by decide) (hcd : (x == ("__classdict__" : Str)) = false := by decide) : QE X (.Name x pos) (pVar i) := by
  refine PE.weak (pe_var hN hv hd hcd) fun σ H Q ⟨O, Γ, Q0, E, ht, hq⟩ => ?_
  have ht : pVars i Q0 Γ (nth Γ i) := ht
  cases e : nth Γ i with
  | un => rw [e] at ht; exact ht.elim
  | sh d =>
    rw [e] at ht
    obtain ⟨v, ev, rv⟩ := E.sl i _ (nth_sh e)
    exact ⟨v, ev, hq _ _ ht v H O (.here E rv)⟩
  | ow d =>
    rw [e] at ht
    obtain ⟨a, ev, _, _⟩ := E.sl i _ (nth_ow e)
    exact ⟨.ref a, ev, hq _ _ ht _ H O (.slot E ev)⟩
theorem qv (i : Nat) {x : Str} (hN : X.N[i]? = some x := by rfl) (hv : Vis X.env.scope x := by first | exact Or.inl rfl | exact Or.inr (Or.inl rfl) | exact Or.inr (Or.inr rfl)) (hd : (x == ("__debug__" : Str)) = false := by decide)
    (hcd : (x == ("__classdict__" : Str)) = false := by decide) : QE X (.Name x pos) (pVar i) := qe_var hN hv hd hcd
theorem qe_tC {e : Expr} {v : V} {d : D} (h : PE X e (tC v)) (r : ∀ G O H, Rep G O H v d) : QE X e (pC d) :=
  PE.weak h fun σ H Q ⟨O, Γ, Q0, E, ht, hq⟩ => hq _ _ ht v H O (.here E (r _ _ _))
theorem qe_int {i : Int} {j : Nat} : QE X (.Constant (.int i) j pos) (pC (.int i)) := qe_tC pe_int fun _ _ _ => .int i
theorem qe_bl {b : Bool} {j : Nat} : QE X (.Constant (.bool b) j pos) (pC (.bl b)) := qe_tC pe_bl fun _ _ _ => .bl b
theorem qe_non {j : Nat} : QE X (.Constant .none j pos) (pC .non) := qe_tC pe_non fun _ _ _ => .non
theorem qe_str {x : Str} {j : Nat} : QE X (.Constant (.str x) j pos) (pC (.str x)) := qe_tC pe_str fun _ _ _ => .str x
/-- a module's int or text constant, a class or def as a value -/
theorem qe_glob {x : Str} {v : V} {u : Value} {d : D} (hg : Gl X x) (hm : X.mg x = some u) (r : RelV v u) (rd : ∀ G O H, Rep G O H v d) (hd : (x == ("__debug__" : Str)) = false := by decide) : QE X (.Name x pos) (pC d) := qe_tC (pe_glob hg hm r hd) rd
theorem qe_bltn {x : Str} {v : V} {u : Value} (hg : Gl X x) (hm : X.mg x = none) (hv : bootBuiltins x = some u) (r : RelV v u) (hn : x ≠ "__name__" := by decide) (hd : (x == ("__debug__" : Str)) = false := by decide) : QE X (.Name x pos) (pC (.cst v)) :=
  qe_tC (pe_bltn hg hm hv r hn hd) fun _ _ _ => .cst v
end

abbrev POp := D → D → (Rv → Prop) → Prop
abbrev PUn := D → (Rv → Prop) → Prop
def OpSim (G : Gc) (r : R2) (f : POp) : Prop := ∀ (σ : St) (Γ : List Sl) (O : Addr → Prop) (H : Hp) (x y : V) (d e : D) (K0 : Rv → Prop) (Q : VK), EnvR G O H σ Γ → Vw G O H x d → Vw G O H y e → f d e K0 →
  (∀ rv, K0 rv → ∀ v H' O', EPost G O H σ Γ O' H' Γ v rv → Q v H') → r x y H Q
def UnSim (G : Gc) (r : V → Hp → VK → Prop) (f : PUn) : Prop := ∀ (σ : St) (Γ : List Sl) (O : Addr → Prop) (H : Hp) (x : V) (d : D) (K0 : Rv → Prop) (Q : VK), EnvR G O H σ Γ → Vw G O H x d → f d K0 →
  (∀ rv, K0 rv → ∀ v H' O', EPost G O H σ Γ O' H' Γ v rv → Q v H') → r x H Q
def pBin (f : POp) (ta tb : PEt) : PEt := fun Γ Q => ta Γ fun r1 Γ1 => tb Γ1 fun r2 Γ2 => wd Γ2 r1 fun d => wd Γ2 r2 fun e => f d e fun r => Q r Γ2
def pUn (f : PUn) (ta : PEt) : PEt := fun Γ Q => ta Γ fun r1 Γ1 => wd Γ1 r1 fun d => f d fun r => Q r Γ1
theorem lift_bin {G : Gc} {r : R2} {f : POp} {ta tb : PEt} (h : OpSim G r f) : ∀ σ H Q, lift G (pBin f ta tb) σ H Q → tOp r (lift G ta) (lift G tb) σ H Q := by
  intro σ H Q ⟨O, Γ, Q0, E, ht, hq⟩
  refine ⟨O, Γ, _, E, ht, fun r1 Γ1 k1 v1 H1 O1 p1 => ⟨O1, Γ1, _, p1.env, k1, fun r2 Γ2 k2 v2 H2 O2 p2 => ?_⟩⟩
  have h1 : Held G O2 H2 σ Γ2 v1 r1 := p1.held.frm p1.env p2.frm
  obtain ⟨d, kd, w1⟩ := h1.wd p2.env k2
  obtain ⟨e, ke, w2⟩ := p2.held.wd p2.env kd
  exact h σ Γ2 O2 H2 v1 v2 d e _ Q p2.env w1 w2 ke fun rv k v H' O' p3 => hq rv Γ2 k v H' O' (.after E (p1.t.trans E p2.t) p3)
theorem lift_un {G : Gc} {r : V → Hp → VK → Prop} {f : PUn} {ta : PEt} (h : UnSim G r f) : ∀ σ H Q, lift G (pUn f ta) σ H Q → tUn r (lift G ta) σ H Q := by
  intro σ H Q ⟨O, Γ, Q0, E, ht, hq⟩
  refine ⟨O, Γ, _, E, ht, fun r1 Γ1 k1 v1 H1 O1 p1 => ?_⟩
  obtain ⟨d, kd, w1⟩ := p1.held.wd p1.env k1
  exact h σ Γ1 O1 H1 v1 d _ Q p1.env w1 kd fun rv k v H' O' p3 => hq rv Γ1 k v H' O' (.after E p1.t p3)
section
variable {X : Cx} {pos : Pos} {a b : Expr} {ta tb : PEt}
theorem qe_op {op : Operator} {r : R2} {f : POp} (ho : OpR X (binaryOp op) r) (hs : OpSim (gc X) r f) (ha : QE X a ta) (hb : QE X b tb) : QE X (.BinOp a op b pos) (pBin f ta tb) := PE.weak (pe_op ho ha hb) (lift_bin hs)
theorem qe_cmp {op : CmpOp} {r : R2} {f : POp} (ho : OpR X (compareOp op) r) (hs : OpSim (gc X) r f) (ha : QE X a ta) (hb : QE X b tb) (hm : behindInMarks op b = false) : QE X (.Compare a [op] [b] pos) (pBin f ta tb) := PE.weak (pe_cmpR ho ha hb hm) (lift_bin hs)
theorem qe_unop {op : UnaryOp} {r : V → Hp → VK → Prop} {f : PUn} (ho : UnR X (unaryOp op) r) (hs : UnSim (gc X) r f) (ha : QE X a ta) : QE X (.UnaryOp op a pos) (pUn f ta) := PE.weak (pe_un ho ha) (lift_un hs)
end

def oI (C : Int → Int → Prop) (g : Int → Int → Int) : POp
  | .int i, .int j, k => C i j ∧ k (.sh (.int (g i j)))
  | _, _, _ => False
def oI0 (g : Int → Int → Int) : POp
  | .int i, .int j, k => k (.sh (.int (g i j)))
  | _, _, _ => False
def oB0 (g : Int → Int → Bool) : POp
  | .int i, .int j, k => k (.sh (.bl (g i j)))
  | _, _, _ => False
section
variable {G : Gc}
theorem sim_I {C : Int → Int → Prop} {g : Int → Int → Int} : OpSim G (rI C fun i j => .int (g i j)) (oI C g) := by
  intro σ Γ O H x y d e K0 Q E w1 w2 h hq
  unfold oI at h
  split at h
  · rw [w1.int, w2.int]
    exact ⟨_, _, rfl, rfl, h.1, hq _ h.2 _ _ _ (.here E (.int _))⟩
  · exact h.elim
theorem sim_I0 {g : Int → Int → Int} : OpSim G (rI0 fun i j => .int (g i j)) (oI0 g) := by
  intro σ Γ O H x y d e K0 Q E w1 w2 h hq
  unfold oI0 at h
  split at h
  · rw [w1.int, w2.int]
    exact ⟨_, _, rfl, rfl, hq _ h _ _ _ (.here E (.int _))⟩
  · exact h.elim
theorem sim_B0 {g : Int → Int → Bool} : OpSim G (rI0 fun i j => .bl (g i j)) (oB0 g) := by
  intro σ Γ O H x y d e K0 Q E w1 w2 h hq
  unfold oB0 at h
  split at h
  · rw [w1.int, w2.int]
    exact ⟨_, _, rfl, rfl, hq _ h _ _ _ (.here E (.bl _))⟩
  · exact h.elim
end
def oAdd : POp
  | .int i, .int j, k => k (.sh (.int (i + j)))
  | .str x, .str y, k => x.length + y.length ≤ sizeLine ∧ k (.sh (.str (x ++ y)))
  | .lst xs, .lst ys, k => xs.length + ys.length ≤ sizeLine ∧ k (.fr (.lst (xs ++ ys)))
  | .tup xs, .tup ys, k => xs.length + ys.length ≤ sizeLine ∧ k (.sh (.tup (xs ++ ys)))
  | _, _, _ => False
def oMul : POp
  | .int i, .int j, k => IntMulOk i j ∧ k (.sh (.int (i * j)))
  | .lst xs, .int n, k => (-(2 ^ 63) ≤ n ∧ n < 2 ^ 63 ∧ xs.length * n.toNat ≤ sizeLine) ∧ k (.fr (.lst (List.replicate n.toNat xs).flatten))
  | _, _, _ => False
abbrev oSub : POp := oI0 fun i j => i - j
/-- // and % by a positive number -/
abbrev oDiv : POp := oI CDivW fun i j => i / j
abbrev oMod : POp := oI (fun _ j => 0 < j) fun i j => i % j
abbrev oPow : POp := oI CPow fun i j => i ^ j.toNat
abbrev oLt : POp := oB0 fun i j => decide (i < j)
abbrev oLe : POp := oB0 fun i j => decide (i ≤ j)
abbrev oGt : POp := oB0 fun i j => decide (j < i)
abbrev oGe : POp := oB0 fun i j => decide (j ≤ i)
theorem mulOk {i j : Int} (h : CMul i j) : IntMulOk i j := h.ok
theorem Reps.rep {G : Gc} {O : Addr → Prop} {H : Hp} {vs : List V} {ds : List D} (r : Reps G O H vs ds) : ∀ k : Nat, Reps G O H (List.replicate k vs).flatten (List.replicate k ds).flatten
  | 0 => .nil
  | k + 1 => by rw [List.replicate_succ, List.replicate_succ, List.flatten_cons, List.flatten_cons]; exact r.app (Reps.rep r k)
section
variable {X : Cx} {pos : Pos} {a b : Expr} {ta tb : PEt} {G : Gc}
def rAdd (K : PySem.W.Frag) : R2 := fun x y H Q => rI0 (fun i j => .int (i + j)) x y H Q ∨ (∃ i j, x = .str i ∧ y = .str j ∧ i.length + j.length ≤ sizeLine ∧ Q (.str (i ++ j)) H) ∨ rCat x y H Q ∨ rCatA K x y H Q
theorem op_addA : OpR X (binaryOp .Add) (rAdd X.K) := OpR.or op_add (OpR.or op_add_str (OpR.or op_cat op_catA))
theorem sim_add : OpSim G (rAdd G.K) oAdd := by
  intro σ Γ O H x y d e K0 Q E w1 w2 h hq
  unfold oAdd at h
  split at h
  · rw [w1.int, w2.int]
    exact .inl ⟨_, _, rfl, rfl, hq _ h _ _ _ (.here E (.int _))⟩
  · rw [w1.str, w2.str]
    exact .inr (.inl ⟨_, _, rfl, rfl, h.1, hq _ h.2 _ _ _ (.here E (.str _))⟩)
  · obtain ⟨a, vs, rfl, ha, ra⟩ := w1.lst
    obtain ⟨b, ws, rfl, hb, rb⟩ := w2.lst
    refine .inr (.inr (.inl ⟨a, b, vs, ws, rfl, rfl, ha, hb, by rw [ra.length, rb.length]; exact h.1, fun p hp => ?_⟩))
    exact hq _ h.2 _ _ _ (.newLst E hp (ra.app rb))
  · obtain ⟨a, vs, ea, ha, ra, rx⟩ := w1.tup
    obtain ⟨b, ws, eb, hb, rb, ry⟩ := w2.tup
    refine .inr (.inr (.inr ⟨a, b, vs, ws, ea, eb, ha, hb, by rw [ra.length, rb.length]; exact h.1, fun z => ?_, fun _ z => ?_, fun _ _ p hp => ?_⟩))
    · subst z
      cases ra
      rw [← eb]
      exact hq _ h.2 _ _ _ (.here E ry)
    · subst z
      cases rb
      rw [← ea]
      exact hq _ h.2 _ _ _ (.here E (by rw [List.append_nil]; exact rx))
    · exact hq _ h.2 _ _ _ (.newTup E hp (ra.app rb))
  · exact h.elim
theorem qe_add (ha : QE X a ta) (hb : QE X b tb) : QE X (.BinOp a .Add b pos) (pBin oAdd ta tb) := qe_op op_addA sim_add ha hb
theorem op_mulI : OpR X (binaryOp .Mult) (rI IntMulOk fun i j => .int (i * j)) := opI fun _ _ _ _ _ _ _ hc q => PyProof.Rows.mul_int q hc
def rMul : R2 := fun x y H Q => rI IntMulOk (fun i j => .int (i * j)) x y H Q ∨ rRep x y H Q
theorem op_mulA : OpR X (binaryOp .Mult) rMul := OpR.or op_mulI op_rep
theorem sim_mul : OpSim G rMul oMul := by
  intro σ Γ O H x y d e K0 Q E w1 w2 h hq
  unfold oMul at h
  split at h
  · rw [w1.int, w2.int]
    exact .inl ⟨_, _, rfl, rfl, h.1, hq _ h.2 _ _ _ (.here E (.int _))⟩
  · obtain ⟨a, vs, rfl, ha, ra⟩ := w1.lst
    rw [w2.int]
    refine .inr ⟨a, _, vs, rfl, rfl, ha, h.1.1, h.1.2.1, by rw [ra.length]; exact h.1.2.2, fun p hp => ?_⟩
    exact hq _ h.2 _ _ _ (.newLst E hp (ra.rep _))
  · exact h.elim
theorem qe_mul (ha : QE X a ta) (hb : QE X b tb) : QE X (.BinOp a .Mult b pos) (pBin oMul ta tb) := qe_op op_mulA sim_mul ha hb
theorem qe_sub (ha : QE X a ta) (hb : QE X b tb) : QE X (.BinOp a .Sub b pos) (pBin oSub ta tb) := qe_op op_sub sim_I0 ha hb
theorem qe_div (ha : QE X a ta) (hb : QE X b tb) : QE X (.BinOp a .FloorDiv b pos) (pBin oDiv ta tb) := qe_op op_fdivW sim_I ha hb
theorem qe_mod (ha : QE X a ta) (hb : QE X b tb) : QE X (.BinOp a .Mod b pos) (pBin oMod ta tb) := qe_op op_mod sim_I ha hb
theorem qe_pow (ha : QE X a ta) (hb : QE X b tb) : QE X (.BinOp a .Pow b pos) (pBin oPow ta tb) := qe_op op_pow sim_I ha hb
theorem qe_lt (ha : QE X a ta) (hb : QE X b tb) : QE X (.Compare a [.Lt] [b] pos) (pBin oLt ta tb) := qe_cmp op_lt sim_B0 ha hb (nomark _)
theorem qe_le (ha : QE X a ta) (hb : QE X b tb) : QE X (.Compare a [.LtE] [b] pos) (pBin oLe ta tb) := qe_cmp op_le sim_B0 ha hb (nomark _)
theorem qe_gt (ha : QE X a ta) (hb : QE X b tb) : QE X (.Compare a [.Gt] [b] pos) (pBin oGt ta tb) := qe_cmp op_gt sim_B0 ha hb (nomark _)
theorem qe_ge (ha : QE X a ta) (hb : QE X b tb) : QE X (.Compare a [.GtE] [b] pos) (pBin oGe ta tb) := qe_cmp op_ge sim_B0 ha hb (nomark _)
def oNeg : PUn
  | .int i, k => k (.sh (.int (-i)))
  | _, _ => False
theorem qe_neg (ha : QE X a ta) : QE X (.UnaryOp .USub a pos) (pUn oNeg ta) := qe_unop un_neg (fun σ Γ O H x d K0 Q E w h hq => by
  unfold oNeg at h
  split at h
  · rw [w.int]; exact ⟨_, rfl, hq _ h _ _ _ (.here E (.int _))⟩
  · exact h.elim) ha
end
end PL

namespace PL
open PySem L2

def asB : Rv → (Bool → Prop) → Prop
  | .sh (.bl b), k => k b
  | _, _ => False
/-- a value that is True or False, as a test -/
def pTB (t : PEt) : PTt := fun Γ Q => t Γ fun r Γ1 => asB r fun b => Q b Γ1
def tru : D → (Bool → Prop) → Prop
  | .non, k => k false
  | .bl b, k => k b
  | .int i, k => k (i != 0)
  | .str x, k => x.length ≤ sizeLine ∧ k ((x.length : Int) != 0)
  | .lst xs, k => k (!xs.isEmpty)
  | .tup xs, k => k (!xs.isEmpty)
  | .dct xs, k => k (!xs.isEmpty)
  | _, _ => False
/-- a value's truth -/
def pTe (t : PEt) : PTt := fun Γ Q => t Γ fun r Γ1 => wd Γ1 r fun d => tru d fun b => Q b Γ1
section
variable {G : Gc} {O O' O1 O2 : Addr → Prop} {H H' H1 H2 : Hp} {σ σ' : St} {Γ Γ' Γ1 Γ2 : List Sl} {a : Addr} {v : V} {r : Rv} {B : List Nat}
theorem lift_TB {t : PEt} : ∀ σ H Q, liftT G (pTB t) σ H Q → lift G t σ H fun x H' => ∃ k, x = .bl k ∧ Q k H' := by
  intro σ H Q ⟨O, Γ, Q0, E, ht, hq⟩
  refine ⟨O, Γ, _, E, ht, fun r Γ' k v H' O' p => ?_⟩
  unfold asB at k
  split at k
  · have hr := p.held
    cases hr
    exact ⟨_, rfl, hq _ _ k H' O' p.t⟩
  · exact k.elim
theorem isEmpty_len {α β : Type} {xs : List α} {ys : List β} (h : xs.length = ys.length) : xs.isEmpty = ys.isEmpty := by cases xs <;> cases ys <;> simp_all
theorem lift_Te {t : PEt} : ∀ σ H Q, liftT G (pTe t) σ H Q → lift G t σ H fun x H' => ∃ k, TruV G.K x H' k ∧ Q k H' := by
  intro σ H Q ⟨O, Γ, Q0, E, ht, hq⟩
  refine ⟨O, Γ, _, E, ht, fun r Γ' k v H' O' p => ?_⟩
  obtain ⟨d, kd, w⟩ := p.held.wd p.env k
  unfold tru at kd
  split at kd
  · rw [w.non]; exact ⟨_, rfl, hq _ _ kd H' O' p.t⟩
  · rw [w.bl]; exact ⟨_, rfl, hq _ _ kd H' O' p.t⟩
  · rw [w.int]; exact ⟨_, rfl, hq _ _ kd H' O' p.t⟩
  · rw [w.str]; exact ⟨_, ⟨kd.1, rfl⟩, hq _ _ kd.2 H' O' p.t⟩
  · obtain ⟨a, vs, rfl, ha, ra⟩ := w.lst
    exact ⟨_, .inl ⟨vs, .of ha, rfl⟩, hq _ _ (by rw [isEmpty_len ra.length]; exact kd) H' O' p.t⟩
  · obtain ⟨a, vs, rfl, ha, ra, _⟩ := w.tup
    exact ⟨_, .inr (.inl ⟨vs, ha, rfl⟩), hq _ _ (by rw [isEmpty_len ra.length]; exact kd) H' O' p.t⟩
  · obtain ⟨a, kvs, rfl, ha, hk, _⟩ := w.dct
    have hl := congrArg List.length hk
    rw [List.length_map, List.length_map] at hl
    exact ⟨_, .inr (.inr ⟨kvs, ha, rfl⟩), hq _ _ (by rw [isEmpty_len hl]; exact kd) H' O' p.t⟩
  · exact kd.elim

theorem lookup_at : ∀ {fvs : List (Str × V)} {ks : List Str} {j : Nat} {f : Str} {v : V}, fvs.map (·.1) = ks → ks.Nodup → ks[j]? = some f → (fvs.map (·.2))[j]? = some v → fvs.lookup f = some v
  | [], _, _, _, _, e, _, _, h => by simp at h
  | (g, w) :: r, ks, 0, f, v, e, nd, hk, h => by
    subst e
    simp at hk h
    subst hk h
    simp [List.lookup]
  | (g, w) :: r, ks, j + 1, f, v, e, nd, hk, h => by
    subst e
    have nd' := List.nodup_cons.mp nd
    have hk' : (r.map (·.1))[j]? = some f := by simpa using hk
    have hne : (f == g) = false := by
      refine beq_eq_false_iff_ne.mpr fun z => nd'.1 ?_
      rw [← z]
      exact List.mem_of_getElem? hk'
    rw [List.lookup_cons, hne]
    exact lookup_at rfl nd'.2 hk' (by simpa using h)
end

section
variable {X : Cx} {pos : Pos} {a b c e : Expr} {rest : List Expr} {ta tb tc : PEt} {u t t' : PTt}
theorem qt_cmp {op : CmpOp} {r : R2} {f : POp} (ho : OpR X (compareOp op) r) (hs : OpSim (gc X) r f) (ha : QE X a ta) (hb : QE X b tb) (hm : behindInMarks op b = false) : QT X (.Compare a [op] [b] pos) (pTB (pBin f ta tb)) :=
  PT.weak (pt_cmpR ho ha hb hm) fun σ H Q h => lift_bin hs σ H _ (lift_TB σ H Q h)
/-- any expression as a test -/
theorem qt_val (ha : QE X a ta) (he : ∀ whole, isTrue a X.env whole = (do let v ← whole; standAt a.pos; holding [v] (truthy v)) := by intro _; rfl) : QT X a (pTe ta) :=
  PT.weak (pt_truth ha he) fun σ H Q h => lift_Te σ H Q h
theorem qt_lt (ha : QE X a ta) (hb : QE X b tb) : QT X (.Compare a [.Lt] [b] pos) (pTB (pBin oLt ta tb)) := qt_cmp op_lt sim_B0 ha hb (nomark _)
theorem qt_le (ha : QE X a ta) (hb : QE X b tb) : QT X (.Compare a [.LtE] [b] pos) (pTB (pBin oLe ta tb)) := qt_cmp op_le sim_B0 ha hb (nomark _)
theorem qt_gt (ha : QE X a ta) (hb : QE X b tb) : QT X (.Compare a [.Gt] [b] pos) (pTB (pBin oGt ta tb)) := qt_cmp op_gt sim_B0 ha hb (nomark _)
theorem qt_ge (ha : QE X a ta) (hb : QE X b tb) : QT X (.Compare a [.GtE] [b] pos) (pTB (pBin oGe ta tb)) := qt_cmp op_ge sim_B0 ha hb (nomark _)
def pAnd (t u : PTt) : PTt := fun Γ Q => t Γ fun b Γ1 => (b = true → u Γ1 Q) ∧ (b = false → Q false Γ1)
def pOr (t u : PTt) : PTt := fun Γ Q => t Γ fun b Γ1 => (b = true → Q true Γ1) ∧ (b = false → u Γ1 Q)
def pNot (t : PTt) : PTt := fun Γ Q => t Γ fun b Γ1 => Q (!b) Γ1
theorem qw_and1 (ha : QT X a t) : QW X (.BoolOp .And [a] pos) t := pw_and1 ha
theorem qw_or1 (ha : QT X a t) : QW X (.BoolOp .Or [a] pos) t := pw_or1 ha
theorem lift_and {G : Gc} {t u : PTt} : ∀ σ H Q, liftT G (pAnd t u) σ H Q → tAnd (liftT G t) (liftT G u) σ H Q := by
  intro σ H Q ⟨O, Γ, Q0, E, ht, hq⟩
  refine ⟨O, Γ, _, E, ht, fun b Γ1 k H1 O1 p => ?_⟩
  cases b with
  | true => exact ⟨O1, Γ1, _, p.env, k.1 rfl, fun b2 Γ2 k2 H2 O2 p2 => hq b2 Γ2 k2 H2 O2 (p.trans E p2)⟩
  | false => exact hq _ _ (k.2 rfl) H1 O1 p
theorem lift_or {G : Gc} {t u : PTt} : ∀ σ H Q, liftT G (pOr t u) σ H Q → tOr (liftT G t) (liftT G u) σ H Q := by
  intro σ H Q ⟨O, Γ, Q0, E, ht, hq⟩
  refine ⟨O, Γ, _, E, ht, fun b Γ1 k H1 O1 p => ?_⟩
  cases b with
  | false => exact ⟨O1, Γ1, _, p.env, k.2 rfl, fun b2 Γ2 k2 H2 O2 p2 => hq b2 Γ2 k2 H2 O2 (p.trans E p2)⟩
  | true => exact hq _ _ (k.1 rfl) H1 O1 p
theorem qw_and (ha : QT X a t) (hb : QW X (.BoolOp .And (b :: rest) pos) u) : QW X (.BoolOp .And (a :: b :: rest) pos) (pAnd t u) := PW.weak (pw_and ha hb) lift_and
theorem qw_or (ha : QT X a t) (hb : QW X (.BoolOp .Or (b :: rest) pos) u) : QW X (.BoolOp .Or (a :: b :: rest) pos) (pOr t u) := PW.weak (pw_or ha hb) lift_or
theorem QW.qt (h : QW X e t) : QT X e t := L2.PW.pt h
theorem qt_not (ha : QT X a t) : QT X (.UnaryOp .Not a pos) (pNot t) := PT.weak (pt_not ha) fun σ H Q ⟨O, Γ, Q0, E, ht, hq⟩ => ⟨O, Γ, _, E, ht, fun b Γ1 k H1 O1 p => hq _ _ k H1 O1 p⟩
def pAndV (ta tb : PEt) : PEt := fun Γ Q => ta Γ fun r Γ1 => asB r fun b => (b = true → tb Γ1 Q) ∧ (b = false → Q (.sh (.bl false)) Γ1)
def pOrV (ta tb : PEt) : PEt := fun Γ Q => ta Γ fun r Γ1 => asB r fun b => (b = true → Q (.sh (.bl true)) Γ1) ∧ (b = false → tb Γ1 Q)
theorem asB_held {G : Gc} {O : Addr → Prop} {H : Hp} {σ : St} {Γ : List Sl} {v : V} {r : Rv} {k : Bool → Prop} (h : Held G O H σ Γ v r) (q : asB r k) : ∃ b, r = .sh (.bl b) ∧ v = .bl b ∧ k b := by
  unfold asB at q
  split at q
  · cases h; exact ⟨_, rfl, rfl, q⟩
  · exact q.elim
theorem qe_one {op : BoolOp} (h : QE X a ta) : QE X (.BoolOp op [a] pos) ta := pe_one h
theorem qe_and (ha : QE X a ta) (hb : QE X (.BoolOp .And (b :: rest) pos) tb) : QE X (.BoolOp .And (a :: b :: rest) pos) (pAndV ta tb) := by
  refine PE.weak (pe_and ha hb) fun σ H Q ⟨O, Γ, Q0, E, ht, hq⟩ => ⟨O, Γ, _, E, ht, fun r Γ1 k v H1 O1 p => ?_⟩
  obtain ⟨c, rfl, rfl, k⟩ := asB_held p.held k
  refine ⟨c, rfl, ?_⟩
  cases c with
  | true => exact ⟨O1, Γ1, Q0, p.env, k.1 rfl, fun r2 Γ2 k2 v2 H2 O2 p2 => hq r2 Γ2 k2 v2 H2 O2 (.after E p.t p2)⟩
  | false => exact hq _ _ (k.2 rfl) _ H1 O1 p
theorem qe_or (ha : QE X a ta) (hb : QE X (.BoolOp .Or (b :: rest) pos) tb) : QE X (.BoolOp .Or (a :: b :: rest) pos) (pOrV ta tb) := by
  refine PE.weak (pe_or ha hb) fun σ H Q ⟨O, Γ, Q0, E, ht, hq⟩ => ⟨O, Γ, _, E, ht, fun r Γ1 k v H1 O1 p => ?_⟩
  obtain ⟨c, rfl, rfl, k⟩ := asB_held p.held k
  refine ⟨c, rfl, ?_⟩
  cases c with
  | false => exact ⟨O1, Γ1, Q0, p.env, k.2 rfl, fun r2 Γ2 k2 v2 H2 O2 p2 => hq r2 Γ2 k2 v2 H2 O2 (.after E p.t p2)⟩
  | true => exact hq _ _ (k.1 rfl) _ H1 O1 p
def pNotV (ta : PEt) : PEt := fun Γ Q => ta Γ fun r Γ1 => wd Γ1 r fun d => tru d fun b => Q (.sh (.bl (!b))) Γ1
theorem qe_not (ha : QE X a ta) : QE X (.UnaryOp .Not a pos) (pNotV ta) := by
  refine PE.weak (pe_notT ha) fun σ H Q ⟨O, Γ, Q0, E, ht, hq⟩ => ?_
  have h : liftT (gc X) (pTe ta) σ H fun k H' => Q (.bl (!k)) H' := ⟨O, Γ, fun b Γ1 => Q0 (.sh (.bl (!b))) Γ1, E, ht, fun b Γ1 k H1 O1 p => hq _ _ k _ H1 O1 ⟨p.frm, p.env, .bl _, fun _ _ e _ => by cases e⟩⟩
  exact lift_Te σ H _ h
def pIfE (t : PTt) (ta tb : PEt) : PEt := fun Γ Q => t Γ fun b Γ1 => (b = true → ta Γ1 Q) ∧ (b = false → tb Γ1 Q)
theorem qe_ifE (hc : QT X c t) (ha : QE X a ta) (hb : QE X b tb) : QE X (.IfExp c a b pos) (pIfE t ta tb) := by
  refine PE.weak (pe_ifExp hc ha hb) fun σ H Q ⟨O, Γ, Q0, E, ht, hq⟩ => ⟨O, Γ, _, E, ht, fun d Γ1 k H1 O1 p => ?_⟩
  cases d with
  | true => exact ⟨O1, Γ1, Q0, p.env, k.1 rfl, fun r2 Γ2 k2 v2 H2 O2 p2 => hq r2 Γ2 k2 v2 H2 O2 (.after E p p2)⟩
  | false => exact ⟨O1, Γ1, Q0, p.env, k.2 rfl, fun r2 Γ2 k2 v2 H2 O2 p2 => hq r2 Γ2 k2 v2 H2 O2 (.after E p p2)⟩
def pChain (f f' : POp) (ta tb tc : PEt) : PEt := fun Γ Q => ta Γ fun r1 Γ1 => tb Γ1 fun r2 Γ2 => wd Γ2 r1 fun d => wd Γ2 r2 fun e => f d e fun r => asB r fun b =>
  (b = true → tc Γ2 fun r3 Γ3 => wd Γ3 r2 fun e' => wd Γ3 r3 fun g => f' e' g fun r => Q r Γ3) ∧ (b = false → Q (.sh (.bl false)) Γ2)
theorem lift_chain {G : Gc} {r r' : R2} {f f' : POp} {ta tb tc : PEt} (hs : OpSim G r f) (hs' : OpSim G r' f') : ∀ σ H Q, lift G (pChain f f' ta tb tc) σ H Q → tChain r r' (lift G ta) (lift G tb) (lift G tc) σ H Q := by
  intro σ H Q ⟨O, Γ, Q0, E, ht, hq⟩
  refine ⟨O, Γ, _, E, ht, fun r1 Γ1 k1 v1 H1 O1 p1 => ⟨O1, Γ1, _, p1.env, k1, fun r2 Γ2 k2 v2 H2 O2 p2 => ?_⟩⟩
  have h1 : Held G O2 H2 σ Γ2 v1 r1 := p1.held.frm p1.env p2.frm
  obtain ⟨d, kd, w1⟩ := h1.wd p2.env k2
  obtain ⟨e, ke, w2⟩ := p2.held.wd p2.env kd
  refine hs σ Γ2 O2 H2 v1 v2 d e _ _ p2.env w1 w2 ke fun rv k v H3 O3 p3 => ?_
  have t3 := (p1.t.trans E p2.t).trans E p3.t
  obtain ⟨b, rfl, rfl, k⟩ := asB_held p3.held k
  refine ⟨b, rfl, ?_⟩
  cases b with
  | false => exact hq _ _ (k.2 rfl) _ H3 O3 (.after E (p1.t.trans E p2.t) p3)
  | true =>
    refine ⟨O3, Γ2, _, p3.env, k.1 rfl, fun r4 Γ4 k4 v4 H4 O4 p4 => ?_⟩
    have h2 : Held G O4 H4 σ Γ4 v2 r2 := (p2.held.frm p2.env p3.frm).frm p3.env p4.frm
    obtain ⟨e', ke', w2'⟩ := h2.wd p4.env k4
    obtain ⟨g, kg, w4⟩ := p4.held.wd p4.env ke'
    exact hs' σ Γ4 O4 H4 v2 v4 e' g _ Q p4.env w2' w4 kg fun rv k v H' O' p5 => hq rv Γ4 k v H' O' (.after E (t3.trans E p4.t) p5)
theorem qe_chain {op op' : CmpOp} {r r' : R2} {f f' : POp} (ho : OpR X (compareOp op) r) (ho' : OpR X (compareOp op') r') (hs : OpSim (gc X) r f) (hs' : OpSim (gc X) r' f') (ha : QE X a ta) (hb : QE X b tb) (hc : QE X c tc)
    (hm : lastMarks [op, op'] [b, c] = false := by with_unfolding_all rfl) : QE X (.Compare a [op, op'] [b, c] pos) (pChain f f' ta tb tc) := PE.weak (pe_chain ho ho' ha hb hc hm) (lift_chain hs hs')
theorem qt_chain {op op' : CmpOp} {r r' : R2} {f f' : POp} (ho : OpR X (compareOp op) r) (ho' : OpR X (compareOp op') r') (hs : OpSim (gc X) r f) (hs' : OpSim (gc X) r' f') (ha : QE X a ta) (hb : QE X b tb) (hc : QE X c tc)
    (hm : lastMarks [op, op'] [b, c] = false := by with_unfolding_all rfl) : QT X (.Compare a [op, op'] [b, c] pos) (pTB (pChain f f' ta tb tc)) := PT.weak (pt_chain ho ho' ha hb hc hm) fun σ H Q h => lift_chain hs hs' σ H _ (lift_TB σ H Q h)

/-- the attribute f stands at place j in the instances of class c, and no class has the name -/
structure Att (X : Cx) (c j : Nat) (f : Str) : Prop where
  ex : ∃ C, X.mg (ct c).1 = some (.ref C) ∧ Cls X.K C ∧ NoAttr X.K C f
  ix : (ct c).2[j]? = some f
  nd : (ct c).2.Nodup
def fldAt (xs : List D) (k : D → Prop) : Option Nat → Prop
  | some j => match xs[j]? with
    | some e => k e
    | none => False
  | none => False
theorem fldAt_some {xs : List D} {k : D → Prop} {j : Nat} (h : fldAt xs k (some j)) : ∃ e, xs[j]? = some e ∧ k e := by
  cases q : xs[j]? with
  | none => simp only [fldAt, q] at h
  | some e => simp only [fldAt, q] at h; exact ⟨e, rfl, h⟩
def fldD (sel : Nat → Option Nat) : D → (D → Prop) → Prop
  | .ins c xs, k => fldAt xs k (sel c)
  | _, _ => False
def pFld (sel : Nat → Option Nat) (ta : PEt) : PEt := fun Γ Q => ta Γ fun r Γ1 => wd Γ1 r fun d => fldD sel d fun e => Q (.sh e) Γ1
theorem take_get {α : Type} {l : List α} {n j : Nat} {f : α} (hj : j < n) (h : l[j]? = some f) : (l.take n)[j]? = some f := by rw [List.getElem?_take_of_lt hj]; exact h
theorem qe_fld {f : Str} {sel : Nat → Option Nat} (hs : ∀ c j, sel c = some j → Att X c j f) (ha : QE X a ta) (hb : attributeBase a f X.env (eval a X.env) = eval a X.env := by rfl) : QE X (.Attribute a f pos) (pFld sel ta) := by
  refine PE.weak (pe_fld ha hb) fun σ H Q ⟨O, Γ, Q0, E, ht, hq⟩ => ⟨O, Γ, _, E, ht, fun r Γ1 k v H1 O1 p => ?_⟩
  obtain ⟨d, kd, w⟩ := p.held.wd p.env k
  unfold fldD at kd
  split at kd
  · rename_i c xs
    cases es : sel c with
    | none => rw [es] at kd; exact kd.elim
    | some j =>
      rw [es] at kd
      obtain ⟨e, ee, kd⟩ := fldAt_some kd
      obtain ⟨⟨C, hm, cl, na⟩, ix, nd⟩ := hs c j es
      obtain ⟨x, C', dx, fvs, rfl, hc, hx, hk, rr⟩ := w.ins
      have hC : C' = C := by
        have z := (show X.mg (ct c).1 = some (.ref C') from hc).symm.trans hm
        cases z; rfl
      subst hC
      obtain ⟨u, eu, ru⟩ := rr.get ee
      have hj : j < xs.length := (List.getElem?_eq_some_iff.mp ee).1
      exact ⟨x, C', dx, fvs, u, rfl, hx, cl, na, lookup_at hk (nd.sublist (List.take_sublist _ _)) (take_get hj ix) eu, hq _ _ kd u H1 O1 ⟨p.frm, p.env, ru, fun _ _ e _ => by cases e⟩⟩
  · exact kd.elim

end
end PL

namespace PL
open PySem L2

section
variable {G : Gc} {O O' O1 O2 : Addr → Prop} {H H' H1 H2 : Hp} {σ σ' : St} {Γ Γ' Γ1 Γ2 : List Sl} {a : Addr} {v : V} {r : Rv} {B : List Nat}
/-- a new object that is held on is a shared value -/
def unfr : Rv → Rv
  | .fr d => .sh d
  | r => r
theorem EPost.unfr (E : EnvR G O H σ Γ) (p : EPost G O H σ Γ O' H' Γ' v r) : ∃ O2, EPost G O H σ Γ O2 H' Γ' v (unfr r) := by
  cases r with
  | sh d => exact ⟨O', p⟩
  | bo i => exact ⟨O', p⟩
  | fr d =>
    obtain ⟨d', Γ2, O2, ⟨rfl, rfl⟩, q⟩ := p.fz (k := fun d' Γ2 => d' = d ∧ Γ2 = Γ') E ⟨rfl, rfl⟩
    exact ⟨O2, q⟩
theorem EPost.of {rs : Rv} (E : EnvR G O H σ Γ) (h : Held G O H σ Γ v r) (n : ∀ d, r ≠ .fr d) : EPost G O H σ Γ O H Γ v r := ⟨.refl, E, h, fun d a e _ => absurd e (n d)⟩
/-- the values that are not new objects -/
def NoFr (rs : List Rv) : Prop := ∀ r ∈ rs, ∀ d, r ≠ .fr d
/-- all values of a list, with what is given up -/
def fzA (Γ : List Sl) : List Rv → (List D → List Sl → Prop) → Prop
  | [], k => k [] Γ
  | r :: rs, k => fz Γ r fun d Γ1 => fzA Γ1 rs fun ds Γ2 => k (d :: ds) Γ2
def wdA (Γ : List Sl) : List Rv → (List D → Prop) → Prop
  | [], k => k []
  | r :: rs, k => wd Γ r fun d => wdA Γ rs fun ds => k (d :: ds)
inductive Vws (G : Gc) (O : Addr → Prop) (H : Hp) : List V → List D → Prop
  | nil : Vws G O H [] []
  | cons {v : V} {d : D} {vs : List V} {ds : List D} (h : Vw G O H v d) (t : Vws G O H vs ds) : Vws G O H (v :: vs) (d :: ds)
theorem wdA_ok {rs : List Rv} : ∀ {vs : List V} {k : List D → Prop}, EnvR G O H σ Γ → Paired (Held G O H σ Γ) vs rs → wdA Γ rs k → ∃ ds, k ds ∧ Vws G O H vs ds := by
  induction rs with
  | nil =>
    intro vs k E h q
    cases h
    exact ⟨[], q, .nil⟩
  | cons r rs ih =>
    intro vs k E h q
    cases h with
    | cons h t =>
      obtain ⟨d, kd, w⟩ := h.wd E q
      obtain ⟨ds, kds, ws⟩ := ih E t kd
      exact ⟨d :: ds, kds, .cons w ws⟩
theorem Held.less {O2 : Addr → Prop} (h : Held G O H σ Γ v r) (n : ∀ d, r ≠ .fr d) (l : ∀ b, O2 b → O b) : Held G O2 H σ Γ' v r := by
  cases r with
  | sh d => exact Rep.keep (Kp.less l) h
  | bo i => exact h
  | fr d => exact absurd rfl (n d)
theorem Held.step (h : Held G O H σ Γ v r) (n : ∀ d, r ≠ .fr d) (k : Kp O H O' H') : Held G O' H' σ Γ' v r := by
  cases r with
  | sh d => exact Rep.keep k h
  | bo i => exact h
  | fr d => exact absurd rfl (n d)
theorem fzA_ok {rs : List Rv} : ∀ {vs : List V} {k : List D → List Sl → Prop} {O : Addr → Prop} {Γ : List Sl}, EnvR G O H σ Γ → Paired (Held G O H σ Γ) vs rs → NoFr rs → fzA Γ rs k →
    ∃ ds Γ2 O2, k ds Γ2 ∧ TPost G O H σ Γ O2 H Γ2 ∧ Reps G O2 H vs ds := by
  induction rs with
  | nil =>
    intro vs k O Γ E h n q
    cases h
    exact ⟨[], Γ, O, q, .refl E, .nil⟩
  | cons r rs ih =>
    intro vs k O Γ E h n q
    cases h with
    | cons h t =>
      obtain ⟨d, Γ1, O1, kd, p⟩ := EPost.fz E (EPost.of (rs := r) E h (n _ (List.mem_cons_self))) q
      have t1 : Paired (Held G O1 H σ Γ1) _ rs := Helds.frm t E p.frm
      obtain ⟨ds, Γ2, O2, kds, p2, rr⟩ := ih p.env t1 (fun r hr => n r (List.mem_cons_of_mem _ hr)) kd
      refine ⟨d :: ds, Γ2, O2, kds, p.t.trans E p2, .cons ?_ rr⟩
      exact Rep.frm p.held p.env p2.frm
end

def pANil : PAt := fun Γ Q => Q [] Γ
def pACons (ta : PEt) (tr : PAt) : PAt := fun Γ Q => ta Γ fun r Γ1 => tr Γ1 fun rs Γ2 => Q (unfr r :: rs) Γ2
section
variable {X : Cx} {pos : Pos} {a b e : Expr} {es : List Expr} {ta tb : PEt} {t : PAt}
/-- the argument list's reading, with that no value of it is a new object -/
def liftA' (G : Gc) (t : PAt) : TA := fun σ H Q => ∃ O Γ Q0, EnvR G O H σ Γ ∧ t Γ Q0 ∧ ∀ rs Γ', Q0 rs Γ' → NoFr rs → ∀ vs H' O', APost G O H σ Γ O' H' Γ' vs rs → Q vs H'
def QA' (X : Cx) (es : List Expr) (t : PAt) : Prop := PA X es (liftA' (gc X) t)
theorem qa_nil : QA' X [] pANil := PA.weak pa_nil fun σ H Q ⟨O, Γ, Q0, E, ht, hq⟩ => hq [] Γ ht (fun _ h => by cases h) [] H O ⟨.refl, E, .nil⟩
theorem qa_cons (ha : QE X e ta) (hr : QA' X es t) (hs : starEach (e :: es) X.env = (false, eval e X.env) :: starEach es X.env := by rfl) : QA' X (e :: es) (pACons ta t) := by
  refine PA.weak (pa_cons ha hr hs) fun σ H Q ⟨O, Γ, Q0, E, ht, hq⟩ => ⟨O, Γ, _, E, ht, fun r Γ1 k v H1 O1 p => ?_⟩
  obtain ⟨O2, p2⟩ := p.unfr E
  refine ⟨O2, Γ1, _, p2.env, k, fun rs Γ2 k2 nf vs H3 O3 p3 => hq _ _ k2 ?_ _ H3 O3 ⟨(p2.t.trans E p3.t).frm, p3.env, .cons (p2.held.frm p2.env p3.frm) p3.helds⟩⟩
  intro r' hr' d e
  rcases List.mem_cons.mp hr' with z | z
  · subst z
    cases r <;> cases e
  · exact nf r' z d e

def pTup (t : PAt) : PEt := fun Γ Q => t Γ fun rs Γ1 => fzA Γ1 rs fun ds Γ2 => ds.length ≤ sizeLine ∧ Q (.sh (.tup ds)) Γ2
def pLst (t : PAt) : PEt := fun Γ Q => t Γ fun rs Γ1 => fzA Γ1 rs fun ds Γ2 => ds.length ≤ sizeLine ∧ Q (.fr (.lst ds)) Γ2
theorem qe_tup {x1 : Nat} (h : QA' X es t) : QE X (.Tuple es x1 pos) (pTup t) := by
  refine PE.weak (pe_tup h) fun σ H Q ⟨O, Γ, Q0, E, ht, hq⟩ => ⟨O, Γ, _, E, ht, fun rs Γ1 k nf vs H1 O1 p => ?_⟩
  obtain ⟨ds, Γ2, O2, ⟨hl, kd⟩, p2, rr⟩ := fzA_ok p.env p.helds nf k
  refine ⟨by rw [rr.length]; exact hl, fun q hn => hq _ _ kd _ _ _ (.after E (p.t.trans E p2) (EPost.newTup p2.env hn rr))⟩
theorem qe_lst (h : QA' X es t) : QE X (.List es pos) (pLst t) := by
  refine PE.weak (pe_lst h) fun σ H Q ⟨O, Γ, Q0, E, ht, hq⟩ => ⟨O, Γ, _, E, ht, fun rs Γ1 k nf vs H1 O1 p => ?_⟩
  obtain ⟨ds, Γ2, O2, ⟨hl, kd⟩, p2, rr⟩ := fzA_ok p.env p.helds nf k
  refine ⟨by rw [rr.length]; exact hl, fun q hn => hq _ _ kd _ _ _ (.after E (p.t.trans E p2) (EPost.newLst p2.env hn rr))⟩

abbrev PCl := List D → (Rv → Prop) → Prop
def CallSim (G : Gc) (r : List V → Hp → VK → Prop) (g : PCl) : Prop := ∀ (σ : St) (Γ : List Sl) (O : Addr → Prop) (H : Hp) (vs : List V) (ds : List D) (K0 : Rv → Prop) (Q : VK), EnvR G O H σ Γ → Vws G O H vs ds → g ds K0 →
  (∀ rv, K0 rv → ∀ v H' O', EPost G O H σ Γ O' H' Γ v rv → Q v H') → r vs H Q
def pCallB (g : PCl) (t : PAt) : PEt := fun Γ Q => t Γ fun rs Γ1 => wdA Γ1 rs fun ds => g ds fun r => Q r Γ1
theorem lift_callB {G : Gc} {r : List V → Hp → VK → Prop} {g : PCl} {t : PAt} (h : CallSim G r g) : ∀ σ H Q, lift G (pCallB g t) σ H Q → tCB r (liftA' G t) σ H Q := by
  intro σ H Q ⟨O, Γ, Q0, E, ht, hq⟩
  refine ⟨O, Γ, _, E, ht, fun rs Γ1 k nf vs H1 O1 p => ?_⟩
  obtain ⟨ds, kd, w⟩ := wdA_ok p.env p.helds k
  exact h σ Γ1 O1 H1 vs ds _ Q p.env w kd fun rv k v H' O' p3 => hq rv Γ1 k v H' O' (.after E p.t p3)
theorem qe_callB {id : String} {x : Str} {p : Pos} {r : List V → Hp → VK → Prop} {g : PCl} (hc : CallR X (.builtin id) r) (hs : CallSim (gc X) r g) (hg : Gl X x) (hm : X.mg x = none) (hv : bootBuiltins x = some (.builtin id)) (ha : QA' X (e :: es) t)
    (hn : x ≠ "__name__" := by decide) (hdb : (x == ("__debug__" : Str)) = false := by decide) (he : starEach (e :: es) X.env = (false, eval e X.env) :: starEach es X.env := by rfl) (hpl : (backTo pos (starEach es X.env)).any (·.1) = false := by rfl) :
    QE X (.Call (.Name x p) (e :: es) [] pos) (pCallB g t) := PE.weak (pe_callB hc hg hm hv ha hn hdb he hpl) (lift_callB hs)
theorem qe_callTy {T : String} {x : Str} {p : Pos} {r : List V → Hp → VK → Prop} {g : PCl} (hc : CallR X (.type T) r) (hs : CallSim (gc X) r g) (hg : Gl X x) (hm : X.mg x = none) (hv : bootBuiltins x = some (.type T)) (ha : QA' X (e :: es) t)
    (hn : x ≠ "__name__" := by decide) (hdb : (x == ("__debug__" : Str)) = false := by decide) (he : starEach (e :: es) X.env = (false, eval e X.env) :: starEach es X.env := by rfl) (hpl : (backTo pos (starEach es X.env)).any (·.1) = false := by rfl) :
    QE X (.Call (.Name x p) (e :: es) [] pos) (pCallB g t) := PE.weak (pe_callTy hc hg hm hv ha hn hdb he hpl) (lift_callB hs)

/-- len -/
def gLen : PCl
  | [.lst xs], k => k (.sh (.int xs.length))
  | [.tup xs], k => k (.sh (.int xs.length))
  | [.scr xs], k => k (.sh (.int xs.length))
  | [.str x], k => x.length ≤ sizeLine ∧ k (.sh (.int x.length))
  | _, _ => False
def rLen (K : PySem.W.Frag) : List V → Hp → VK → Prop := fun xs H Q => ∃ x n, xs = [x] ∧ LenV K x H n ∧ Q (.int n) H
theorem Vws.one {G : Gc} {O : Addr → Prop} {H : Hp} {vs : List V} {d : D} (h : Vws G O H vs [d]) : ∃ v, vs = [v] ∧ Vw G O H v d := by
  cases h with
  | cons h t => cases t; exact ⟨_, rfl, h⟩
theorem Vws.two {G : Gc} {O : Addr → Prop} {H : Hp} {vs : List V} {d e : D} (h : Vws G O H vs [d, e]) : ∃ v u, vs = [v, u] ∧ Vw G O H v d ∧ Vw G O H u e := by
  cases h with
  | cons h t =>
    cases t with
    | cons h2 t => cases t; exact ⟨_, _, rfl, h, h2⟩
theorem sim_len {G : Gc} : CallSim G (rLen G.K) gLen := by
  intro σ Γ O H vs ds K0 Q E ww h hq
  unfold gLen at h
  split at h
  · obtain ⟨v, rfl, w⟩ := ww.one
    obtain ⟨a, ws, rfl, ha, ra⟩ := w.lst
    exact ⟨_, _, rfl, .inl ⟨ws, .of ha, rfl⟩, hq _ (by rw [ra.length]; exact h) _ _ _ (.here E (.int _))⟩
  · obtain ⟨v, rfl, w⟩ := ww.one
    obtain ⟨a, ws, rfl, ha, ra, _⟩ := w.tup
    exact ⟨_, _, rfl, .inr ⟨ws, ha, rfl⟩, hq _ (by rw [ra.length]; exact h) _ _ _ (.here E (.int _))⟩
  · obtain ⟨v, rfl, w⟩ := ww.one
    obtain ⟨a, rfl, ha⟩ := w.scr
    exact ⟨_, _, rfl, .inl ⟨_, ha, rfl⟩, hq _ (by rw [List.length_map]; exact h) _ _ _ (.here E (.int _))⟩
  · obtain ⟨v, rfl, w⟩ := ww.one
    rw [w.str]
    exact ⟨_, _, rfl, ⟨h.1, rfl⟩, hq _ h.2 _ _ _ (.here E (.int _))⟩
  · exact h.elim
theorem qe_len {x : Str} {p : Pos} (hx : x = "len") (hg : Gl X x) (hm : X.mg x = none) (ha : QA' X (e :: es) t) (he : starEach (e :: es) X.env = (false, eval e X.env) :: starEach es X.env := by rfl) (hpl : (backTo pos (starEach es X.env)).any (·.1) = false := by rfl) :
    QE X (.Call (.Name x p) (e :: es) [] pos) (pCallB gLen t) := by subst hx; exact qe_callB call_len sim_len hg hm PySem.boot_len ha (by decide) (by decide) he hpl

def gAbs : PCl
  | [.int i], k => k (.sh (.int (if i < 0 then -i else i)))
  | _, _ => False
theorem sim_abs {G : Gc} : CallSim G (fun xs H Q => ∃ i, xs = [.int i] ∧ Q (.int (if i < 0 then -i else i)) H) gAbs := by
  intro σ Γ O H vs ds K0 Q E ww h hq
  unfold gAbs at h
  split at h
  · obtain ⟨v, rfl, w⟩ := ww.one
    rw [w.int]
    exact ⟨_, rfl, hq _ h _ _ _ (.here E (.int _))⟩
  · exact h.elim
/-- int(n), int(b) -/
def gInt : PCl
  | [.int i], k => k (.sh (.int i))
  | [.bl b], k => k (.sh (.int (if b then 1 else 0)))
  | _, _ => False
theorem sim_int {G : Gc} : CallSim G (fun xs H Q => (∃ i, xs = [.int i] ∧ Q (.int i) H) ∨ ∃ k, xs = [.bl k] ∧ Q (.int (if k then 1 else 0)) H) gInt := by
  intro σ Γ O H vs ds K0 Q E ww h hq
  unfold gInt at h
  split at h
  · obtain ⟨v, rfl, w⟩ := ww.one
    rw [w.int]
    exact .inl ⟨_, rfl, hq _ h _ _ _ (.here E (.int _))⟩
  · obtain ⟨v, rfl, w⟩ := ww.one
    rw [w.bl]
    exact .inr ⟨_, rfl, hq _ h _ _ _ (.here E (.int _))⟩
  · exact h.elim
/-- bool(n), bool(b) -/
def gBool : PCl
  | [.int i], k => k (.sh (.bl (i != 0)))
  | [.bl b], k => k (.sh (.bl b))
  | _, _ => False
theorem sim_bool {G : Gc} : CallSim G (fun xs H Q => (∃ i, xs = [.int i] ∧ Q (.bl (i != 0)) H) ∨ ∃ k, xs = [.bl k] ∧ Q (.bl k) H) gBool := by
  intro σ Γ O H vs ds K0 Q E ww h hq
  unfold gBool at h
  split at h
  · obtain ⟨v, rfl, w⟩ := ww.one
    rw [w.int]
    exact .inl ⟨_, rfl, hq _ h _ _ _ (.here E (.bl _))⟩
  · obtain ⟨v, rfl, w⟩ := ww.one
    rw [w.bl]
    exact .inr ⟨_, rfl, hq _ h _ _ _ (.here E (.bl _))⟩
  · exact h.elim
/-- the ints of data -/
def intsOf : List D → Option (List Int)
  | [] => some []
  | .int i :: r => (intsOf r).map (i :: ·)
  | _ :: _ => none
theorem intsOf_eq : ∀ {ds : List D} {ns : List Int}, intsOf ds = some ns → ds = ns.map D.int
  | [], ns, h => by cases h; rfl
  | .int i :: r, ns, h => by
    unfold intsOf at h
    cases q : intsOf r with
    | none => rw [q] at h; cases h
    | some ms => rw [q] at h; cases h; rw [List.map_cons, intsOf_eq q]
  | .non :: _, _, h => by cases h
  | .bl _ :: _, _, h => by cases h
  | .str _ :: _, _, h => by cases h
  | .lst _ :: _, _, h => by cases h
  | .tup _ :: _, _, h => by cases h
  | .dct _ :: _, _, h => by cases h
  | .dcT _ :: _, _, h => by cases h
  | .ins _ _ :: _, _, h => by cases h
  | .cst _ :: _, _, h => by cases h
  | .scr _ :: _, _, h => by cases h
theorem intsOf_map (ns : List Int) : intsOf (ns.map D.int) = some ns := by
  induction ns with
  | nil => rfl
  | cons n ns ih => rw [List.map_cons, intsOf, ih]; rfl
/-- sum of a list or tuple of ints -/
def gSum : PCl
  | [.lst ds], k => ∃ ns : List Int, ds = ns.map D.int ∧ k (.sh (.int ns.sum))
  | [.tup ds], k => ∃ ns : List Int, ds = ns.map D.int ∧ k (.sh (.int ns.sum))
  | _, _ => False
open PySem.Spec PyProof.Rows in
theorem sum_rawT {prog : Program} {w : World} {A : Around} {E : Value → Shared → Prop} {s : Shared} {l : Addr} {its : List Value} {ns : List Int} {Q : Value → Shared → Prop} (hh : A.handled = none) (hl : s.heap.IsTuple l its.toArray) (hi : PyProof.Rows.IntsAre its ns)
    (h : ∀ h' tk t', (∀ b o, s.heap.get? b = some o → h'.get? b = some o) → Q (.int ns.sum t') { s with heap := h', toks := tk }) : wpAny (model prog w) A (call (.builtin "sum") [.ref l]) Q E s := by
  obtain ⟨xs, e⟩ := hi.allInts.items
  have hn : numsOf (intItems xs).toList = ns := by rw [← e]; exact hi.numsOf
  rw [nums_intItems] at hn
  rw [e] at hl
  refine PySem.W.ktm_sumG hh hl fun h' tk t' hk => ?_
  have := h h' tk t' hk
  rw [preSum_eq, List.take_of_length_le (by simp), hn]; exact this
def rSumT (K : PySem.W.Frag) : List V → Hp → VK → Prop := fun vs H Q => ∃ (a : Addr) (ns : List Int), vs = [V.ref a] ∧ SqT K H a (ns.map V.int) ∧ Q (.int ns.sum) H
theorem cr_sumT (hc : X.calm = true) : CallR X (.builtin "sum") (rSumT X.K) := by
  intro pins s σ H vs us Q I r h
  obtain ⟨a, ns, rfl, hs, q⟩ := h
  obtain ⟨its, rv, hl, _⟩ := I.tuple hs
  rw [Vals.ref1 r]
  exact sum_rawT (I.ok.hd hc) hl rv.ints fun h' tk t' hk => ⟨.int _, H, I.kept hk, ⟨_, rfl⟩, q⟩
def rSumA (K : PySem.W.Frag) : List V → Hp → VK → Prop := fun vs H Q => rSum K vs H Q ∨ rSumT K vs H Q
theorem cr_sumA (hc : X.calm = true) : CallR X (.builtin "sum") (rSumA X.K) := CallR.or (cr_sum hc) (cr_sumT hc)
theorem sim_sum {G : Gc} : CallSim G (rSumA G.K) gSum := by
  intro σ Γ O H vs ds K0 Q E ww h hq
  unfold gSum at h
  split at h
  · obtain ⟨ns, rfl, k⟩ := h
    obtain ⟨v, rfl, w⟩ := ww.one
    obtain ⟨a, ws, rfl, ha, ra⟩ := w.lst
    rw [ra.ints] at ha
    exact .inl ⟨a, ns, rfl, .of ha, hq _ k _ _ _ (.here E (.int _))⟩
  · obtain ⟨ns, rfl, k⟩ := h
    obtain ⟨v, rfl, w⟩ := ww.one
    obtain ⟨a, ws, rfl, ha, ra, _⟩ := w.tup
    rw [ra.ints] at ha
    exact .inr ⟨a, ns, rfl, ha, hq _ k _ _ _ (.here E (.int _))⟩
  · exact h.elim
/-- all, any of a list of truth values -/
def gAll : PCl
  | [.lst ds], k => ∃ bs : List Bool, ds = bs.map D.bl ∧ k (.sh (.bl (bs.all id)))
  | _, _ => False
def gAny : PCl
  | [.lst ds], k => ∃ bs : List Bool, ds = bs.map D.bl ∧ k (.sh (.bl (bs.any id)))
  | _, _ => False
theorem sim_all {G : Gc} : CallSim G (rAll G.K) gAll := by
  intro σ Γ O H vs ds K0 Q E ww h hq
  unfold gAll at h
  split at h
  · obtain ⟨ns, rfl, k⟩ := h
    obtain ⟨v, rfl, w⟩ := ww.one
    obtain ⟨a, ws, rfl, ha, ra⟩ := w.lst
    rw [ra.bls] at ha
    exact ⟨a, ns, rfl, .of ha, hq _ k _ _ _ (.here E (.bl _))⟩
  · exact h.elim
theorem sim_any {G : Gc} : CallSim G (rAny G.K) gAny := by
  intro σ Γ O H vs ds K0 Q E ww h hq
  unfold gAny at h
  split at h
  · obtain ⟨ns, rfl, k⟩ := h
    obtain ⟨v, rfl, w⟩ := ww.one
    obtain ⟨a, ws, rfl, ha, ra⟩ := w.lst
    rw [ra.bls] at ha
    exact ⟨a, ns, rfl, .of ha, hq _ k _ _ _ (.here E (.bl _))⟩
  · exact h.elim
/-- min, max of two ints -/
def gMax2 : PCl
  | [.int i, .int j], k => k (.sh (.int (if j > i then j else i)))
  | [.lst ds], k => ∃ ns : List Int, ds = ns.map D.int ∧ 0 < ns.length ∧ ∀ m, m ∈ ns → (∀ y, y ∈ ns → y ≤ m) → k (.sh (.int m))
  | _, _ => False
def gMin2 : PCl
  | [.int i, .int j], k => k (.sh (.int (if j < i then j else i)))
  | [.lst ds], k => ∃ ns : List Int, ds = ns.map D.int ∧ 0 < ns.length ∧ ∀ m, m ∈ ns → (∀ y, y ∈ ns → m ≤ y) → k (.sh (.int m))
  | _, _ => False
def rMaxA (K : PySem.W.Frag) : List V → Hp → VK → Prop := fun xs H Q => (∃ i j, xs = [.int i, .int j] ∧ Q (.int (if j > i then j else i)) H) ∨ rMax K xs H Q
def rMinA (K : PySem.W.Frag) : List V → Hp → VK → Prop := fun xs H Q => (∃ i j, xs = [.int i, .int j] ∧ Q (.int (if j < i then j else i)) H) ∨ rMin K xs H Q
theorem cr_maxA (hc : X.calm = true) : CallR X (.builtin "max") (rMaxA X.K) := CallR.or (call_max2 hc) (cr_max hc)
theorem cr_minA (hc : X.calm = true) : CallR X (.builtin "min") (rMinA X.K) := CallR.or (call_min2 hc) (cr_min hc)
theorem sim_max {G : Gc} : CallSim G (rMaxA G.K) gMax2 := by
  intro σ Γ O H vs ds K0 Q E ww h hq
  unfold gMax2 at h
  split at h
  · obtain ⟨v, u, rfl, w1, w2⟩ := ww.two
    rw [w1.int, w2.int]
    exact .inl ⟨_, _, rfl, hq _ h _ _ _ (.here E (.int _))⟩
  · obtain ⟨ns, rfl, hl, k⟩ := h
    obtain ⟨v, rfl, w⟩ := ww.one
    obtain ⟨a, ws, rfl, ha, ra⟩ := w.lst
    rw [ra.ints] at ha
    exact .inr ⟨a, ns, rfl, .of ha, hl, fun m h1 h2 => hq _ (k m h1 h2) _ _ _ (.here E (.int _))⟩
  · exact h.elim
theorem sim_min {G : Gc} : CallSim G (rMinA G.K) gMin2 := by
  intro σ Γ O H vs ds K0 Q E ww h hq
  unfold gMin2 at h
  split at h
  · obtain ⟨v, u, rfl, w1, w2⟩ := ww.two
    rw [w1.int, w2.int]
    exact .inl ⟨_, _, rfl, hq _ h _ _ _ (.here E (.int _))⟩
  · obtain ⟨ns, rfl, hl, k⟩ := h
    obtain ⟨v, rfl, w⟩ := ww.one
    obtain ⟨a, ws, rfl, ha, ra⟩ := w.lst
    rw [ra.ints] at ha
    exact .inr ⟨a, ns, rfl, .of ha, hl, fun m h1 h2 => hq _ (k m h1 h2) _ _ _ (.here E (.int _))⟩
  · exact h.elim
/-- tuple(xs), list(xs) -/
def gTuple : PCl
  | [.lst ds], k => k (.sh (.tup ds))
  | [.tup ds], k => k (.sh (.tup ds))
  | _, _ => False
def gList : PCl
  | [.lst ds], k => k (.fr (.lst ds))
  | [.tup ds], k => k (.fr (.lst ds))
  | _, _ => False
theorem sim_tuple {G : Gc} : CallSim G (fun xs H Q => ∃ p ys, xs = [.ref p] ∧ ((SqL G.K H p ys ∧ ∀ l, H l = none → Q (.ref l) (upd H l (.tup ys))) ∨ (SqT G.K H p ys ∧ Q (.ref p) H))) gTuple := by
  intro σ Γ O H vs ds K0 Q E ww h hq
  unfold gTuple at h
  split at h
  · obtain ⟨v, rfl, w⟩ := ww.one
    obtain ⟨a, ws, rfl, ha, ra⟩ := w.lst
    exact ⟨a, ws, rfl, .inl ⟨.of ha, fun l hl => hq _ h _ _ _ (.newTup E hl ra)⟩⟩
  · obtain ⟨v, rfl, w⟩ := ww.one
    obtain ⟨a, ws, e, ha, ra, rp⟩ := w.tup
    subst e
    exact ⟨a, ws, rfl, .inr ⟨ha, hq _ h _ _ _ (.here E rp)⟩⟩
  · exact h.elim
theorem sim_list {G : Gc} : CallSim G (fun xs H Q => ∃ p ys, xs = [.ref p] ∧ (SqL G.K H p ys ∨ SqT G.K H p ys) ∧ ∀ l, H l = none → Q (.ref l) (upd H l (.lst ys))) gList := by
  intro σ Γ O H vs ds K0 Q E ww h hq
  unfold gList at h
  split at h
  · obtain ⟨v, rfl, w⟩ := ww.one
    obtain ⟨a, ws, rfl, ha, ra⟩ := w.lst
    exact ⟨a, ws, rfl, .inl (.of ha), fun l hl => hq _ h _ _ _ (.newLst E hl ra)⟩
  · obtain ⟨v, rfl, w⟩ := ww.one
    obtain ⟨a, ws, e, ha, ra, rp⟩ := w.tup
    subst e
    exact ⟨a, ws, rfl, .inr ha, fun l hl => hq _ h _ _ _ (.newLst E hl ra)⟩
  · exact h.elim

def oIx : POp
  | .lst xs, .int i, k => ∃ d, atI xs i = some d ∧ k (.sh d)
  | .tup xs, .int i, k => ∃ d, atI xs i = some d ∧ k (.sh d)
  | .str z, .int i, k => z.length ≤ sizeLine ∧ ∃ c, atI z.cps.toList i = some c ∧ k (.sh (.str ⟨#[c]⟩))
  | _, _, _ => False
theorem atI_rep {G : Gc} {O : Addr → Prop} {H : Hp} {vs : List V} {ds : List D} {i : Int} {d : D} (r : Reps G O H vs ds) (h : atI ds i = some d) : ∃ v, atI vs i = some v ∧ Rep G O H v d := by
  unfold atI at h ⊢
  rw [r.length]
  cases q : ixN ds.length i with
  | none => rw [q] at h; cases h
  | some j =>
    rw [q] at h
    exact r.get h
theorem sim_ix {G : Gc} : OpSim G (rIx G.K) oIx := by
  intro σ Γ O H x y d e K0 Q E w1 w2 h hq
  unfold oIx at h
  split at h
  · obtain ⟨d, hd, k⟩ := h
    obtain ⟨a, vs, rfl, ha, ra⟩ := w1.lst
    obtain ⟨v, hv, rv⟩ := atI_rep ra hd
    rw [w2.int]
    exact .inl ⟨a, vs, _, v, rfl, rfl, .of ha, hv, hq _ k _ _ _ (.here E rv)⟩
  · obtain ⟨d, hd, k⟩ := h
    obtain ⟨a, vs, ea, ha, ra, _⟩ := w1.tup
    obtain ⟨v, hv, rv⟩ := atI_rep ra hd
    rw [w2.int]
    exact .inr (.inl ⟨a, vs, _, v, ea, rfl, ha, hv, hq _ k _ _ _ (.here E rv)⟩)
  · obtain ⟨hz, c, hc, k⟩ := h
    rw [w1.str, w2.int]
    exact .inr (.inr ⟨_, _, c, rfl, rfl, hz, hc, hq _ k _ _ _ (.here E (.str _))⟩)
  · exact h.elim
theorem qe_ix (ha : QE X a ta) (hb : QE X b tb) (hs : PlainIx b := by exact fun _ _ => rfl) : QE X (.Subscript a b pos) (pBin oIx ta tb) := PE.weak (pe_ix ix_seq ha hb hs) (lift_bin sim_ix)
abbrev POt := List Sl → (Option Int → List Sl → Prop) → Prop
def liftO (G : Gc) (t : POt) : TO := fun σ H Q => ∃ O Γ Q0, EnvR G O H σ Γ ∧ t Γ Q0 ∧ ∀ b Γ', Q0 b Γ' → ∀ H' O', TPost G O H σ Γ O' H' Γ' → Q b H'
def QO (X : Cx) (e : Option Expr) (t : POt) : Prop := PO X e (liftO (gc X) t)
theorem PO.weak {X : Cx} {e : Option Expr} {t t' : TO} (h : PO X e t) (k : ∀ σ H Q, t' σ H Q → t σ H Q) : PO X e t' := ⟨fun pins s σ H Q I q => h.run pins s σ H Q I (k _ _ _ q)⟩
def pNoP : POt := fun Γ Q => Q none Γ
def asI : D → (Int → Prop) → Prop
  | .int i, k => k i
  | _, _ => False
def pPart (t : PEt) : POt := fun Γ Q => t Γ fun r Γ1 => wd Γ1 r fun d => asI d fun i => Q (some i) Γ1
theorem qo_none : QO X none pNoP := PO.weak po_none fun σ H Q ⟨O, Γ, Q0, E, ht, hq⟩ => hq _ _ ht H O (.refl E)
theorem qo_some (h : QE X e ta) : QO X (some e) (pPart ta) := PO.weak (po_some h) fun σ H Q ⟨O, Γ, Q0, E, ht, hq⟩ => ⟨O, Γ, _, E, ht, fun r Γ1 k v H1 O1 p => by
  obtain ⟨d, kd, w⟩ := p.held.wd p.env k
  unfold asI at kd
  split at kd
  · exact ⟨_, w.int, hq _ _ kd H1 O1 p.t⟩
  · exact kd.elim⟩
/-- the part of a list from lo up to hi -/
def cutG {α : Type} (xs : List α) (lo hi : Option Int) : List α := (xs.drop (HT.sIx xs.length 0 lo)).take (HT.sIx xs.length xs.length hi - HT.sIx xs.length 0 lo)
def oSl (lo hi : Option Int) : PUn
  | .lst xs, k => k (.fr (.lst (cutG xs lo hi)))
  | .tup xs, k => k (.sh (.tup (cutG xs lo hi)))
  | .scr ns, k => k (.fr (.lst ((cutG ns lo hi).map D.int)))
  | _, _ => False
def pSl (te : PEt) (tl th : POt) : PEt := fun Γ Q => te Γ fun r Γ1 => tl Γ1 fun lo Γ2 => th Γ2 fun hi Γ3 => wd Γ3 r fun d => oSl lo hi d fun r => Q r Γ3
def rSl (K : PySem.W.Frag) : V → Option Int → Option Int → Hp → VK → Prop := fun x lo hi H Q => rSlL K x lo hi H Q ∨ rSlA K x lo hi H Q
theorem sl_any : L2.SlR X (rSl X.K) := L2.SlR.or sl_list sl_tupA
theorem cut_rep {G : Gc} {O : Addr → Prop} {H : Hp} {vs : List V} {ds : List D} {lo hi : Option Int} (r : Reps G O H vs ds) : Reps G O H (cutV vs lo hi) (cutG ds lo hi) := by
  unfold cutV cutG
  rw [r.length]
  exact (r.drop _).take _
theorem qe_sl {lo hi : Option Expr} {tl th : POt} {p2 : Pos} (he : QE X e ta) (hl : QO X lo tl) (hu : QO X hi th) : QE X (.Subscript e (.Slice lo hi none p2) pos) (pSl ta tl th) := by
  refine PE.weak (pe_slice sl_any he hl hu) fun σ H Q ⟨O, Γ, Q0, E, ht, hq⟩ => ⟨O, Γ, _, E, ht, fun r1 Γ1 k1 v1 H1 O1 p1 => ⟨O1, Γ1, _, p1.env, k1, fun lo' Γ2 k2 H2 O2 p2 => ⟨O2, Γ2, _, p2.env, k2, fun hi' Γ3 k3 H3 O3 p3 => ?_⟩⟩⟩
  have t3 := (p1.t.trans E p2).trans E p3
  have h1 : Held (gc X) O3 H3 σ Γ3 v1 r1 := (p1.held.frm p1.env p2.frm).frm p2.env p3.frm
  obtain ⟨d, kd, w⟩ := h1.wd p3.env k3
  unfold oSl at kd
  split at kd
  · obtain ⟨a, vs, rfl, ha, ra⟩ := w.lst
    exact .inl ⟨a, vs, rfl, .of ha, fun p hp => hq _ _ kd _ _ _ (.after E t3 (EPost.newLst p3.env hp (cut_rep ra)))⟩
  · obtain ⟨a, vs, ea, ha, ra, rp⟩ := w.tup
    subst ea
    refine .inr ⟨a, vs, rfl, ha, fun hw => ?_, fun _ p hp => hq _ _ kd _ _ _ (.after E t3 (EPost.newTup p3.env hp (cut_rep ra)))⟩
    have e : ∀ {α : Type} (xs : List α), HT.sIx xs.length 0 lo' = 0 ∧ HT.sIx xs.length xs.length hi' = xs.length → cutG xs lo' hi' = xs := fun xs hw => by
      unfold cutG
      rw [hw.1, hw.2, List.drop_zero, Nat.sub_zero, List.take_length]
    rw [e _ (by rw [← ra.length]; exact hw)] at kd
    exact hq _ _ kd _ _ _ (.after E t3 (EPost.here p3.env rp))
  · obtain ⟨a, rfl, ha⟩ := w.scr
    refine .inl ⟨a, _, rfl, ha, fun p hp => hq _ _ kd _ _ _ (.after E t3 (EPost.newLst p3.env hp ?_))⟩
    have : cutV (List.map V.int ‹List Int›) lo' hi' = (cutG ‹List Int› lo' hi').map V.int := by
      unfold cutV cutG
      rw [List.length_map, List.map_take, List.map_drop]
    rw [this]
    exact Reps.ofInts _
  · exact kd.elim

def isNon : D → Option Bool
  | .non => some true
  | .cst _ => none
  | _ => some false
theorem isNon_ok {G : Gc} {O : Addr → Prop} {H : Hp} {v : V} {d : D} {b : Bool} (w : Vw G O H v d) (h : isNon d = some b) : decide (v = V.non) = b := by
  cases d with
  | non => cases h; rw [w.non]; rfl
  | bl _ => cases h; rw [w.bl]; rfl
  | int _ => cases h; rw [w.int]; rfl
  | str _ => cases h; rw [w.str]; rfl
  | lst _ => cases h; obtain ⟨a, _, rfl, _⟩ := w.lst; rfl
  | tup _ => cases h; obtain ⟨a, _, rfl, _⟩ := w.tup; rfl
  | dct _ => cases h; obtain ⟨a, _, rfl, _⟩ := w.dct; rfl
  | dcT _ => cases h; obtain ⟨a, _, rfl, _⟩ := w.dcT; rfl
  | ins _ _ => cases h; obtain ⟨a, _, _, _, rfl, _⟩ := w.ins; rfl
  | scr _ => cases h; obtain ⟨a, rfl, _⟩ := w.scr; rfl
  | cst _ => cases h
def oIsN : POp := fun d e k => match e with
  | .non => match isNon d with
    | some b => k (.sh (.bl b))
    | none => False
  | _ => False
def oNotN : POp := fun d e k => match e with
  | .non => match isNon d with
    | some b => k (.sh (.bl (!b)))
    | none => False
  | _ => False
theorem sim_isN {G : Gc} : OpSim G (fun x y H Q => y = .non ∧ Q (.bl (decide (x = .non))) H) oIsN := by
  intro σ Γ O H x y d e K0 Q E w1 w2 h hq
  unfold oIsN at h
  split at h
  · split at h
    · rename_i b eb
      exact ⟨w2.non, hq _ h _ _ _ (by rw [isNon_ok w1 eb]; exact .here E (.bl _))⟩
    · exact h.elim
  · exact h.elim
theorem sim_notN {G : Gc} : OpSim G (fun x y H Q => y = .non ∧ Q (.bl (!decide (x = .non))) H) oNotN := by
  intro σ Γ O H x y d e K0 Q E w1 w2 h hq
  unfold oNotN at h
  split at h
  · split at h
    · rename_i b eb
      exact ⟨w2.non, hq _ h _ _ _ (by rw [isNon_ok w1 eb]; exact .here E (.bl _))⟩
    · exact h.elim
  · exact h.elim
end
end PL

namespace PL
open PySem L2

mutual
def pyOf : D → PyData
  | .non => .none
  | .bl b => .bool b
  | .int i => .int i
  | .str x => .str x
  | .lst xs => .list (pyAll xs)
  | .tup xs => .tuple (pyAll xs)
  | _ => .none
def pyAll : List D → List PyData
  | [] => []
  | x :: xs => pyOf x :: pyAll xs
end
mutual
def plainD : D → Bool
  | .non => true
  | .bl _ => true
  | .int _ => true
  | .str _ => true
  | .lst xs => plainA xs
  | .tup xs => plainA xs
  | _ => false
def plainA : List D → Bool
  | [] => true
  | x :: xs => plainD x && plainA xs
end
section
variable {G : Gc} {O : Addr → Prop} {H : Hp}
theorem TupAt.sqt {a : Addr} {vs : List V} (h : TupAt G O H a vs) : SqT G.K H a vs := h.sq
mutual
theorem Rep.dp : ∀ {v : V} {d : D}, Rep G O H v d → plainD d = true → Dp G.K H v (pyOf d)
  | _, _, .non, _ => .non
  | _, _, .bl b, _ => .bl b
  | _, _, .int i, _ => .int i
  | _, _, .str x, _ => .str x
  | _, _, .lst ho h r, p => .lst (.of h) (Reps.dp r (by simpa [plainD] using p))
  | _, _, .tup h r, p => .tup h.sqt (Reps.dp r (by simpa [plainD] using p))
  | _, _, .cst v, p => by simp [plainD] at p
  | _, _, .ins .., p => by simp [plainD] at p
  | _, _, .dct .., p => by simp [plainD] at p
  | _, _, .dcT .., p => by simp [plainD] at p
  | _, _, .scr .., p => by simp [plainD] at p
theorem Reps.dp : ∀ {vs : List V} {ds : List D}, Reps G O H vs ds → plainA ds = true → DpAll G.K H vs (pyAll ds)
  | _, _, .nil, _ => .nil
  | _ :: _, d :: ds, .cons h t, p => by
    have q : plainD d = true ∧ plainA ds = true := Bool.and_eq_true_iff.mp (by rw [← p, plainA])
    exact .cons (Rep.dp h q.1) (Reps.dp t q.2)
end
theorem Vw.dp {v : V} {d : D} (w : Vw G O H v d) (p : plainD d = true) : Dp G.K H v (pyOf d) := by
  rcases w with w | ⟨a, e, w⟩
  · exact w.dp p
  · cases d with
    | lst ds => obtain ⟨vs, ha, r⟩ := w; rw [e]; exact .lst (.of ha) (r.dp (by simpa [plainD] using p))
    | dct ds => simp [plainD] at p
    | dcT ds => simp [plainD] at p
    | ins c ds => simp [plainD] at p
    | non => exact w.elim
    | bl _ => exact w.elim
    | int _ => exact w.elim
    | str _ => exact w.elim
    | tup _ => exact w.elim
    | cst _ => exact w.elim
    | scr _ => exact w.elim
end
/-- data that == and in take -/
def okD (d : D) : Bool := plainD d && SeqAt.shaped (pyOf d)
/-- what == says of two such -/
def eqb (d e : D) : Bool := PyData.eqv (pyOf d) (pyOf e)
def oEq : POp := fun d e k => okD d = true ∧ okD e = true ∧ k (.sh (.bl (eqb d e)))
def oNe : POp := fun d e k => okD d = true ∧ okD e = true ∧ k (.sh (.bl (!eqb d e)))
theorem okD_iff {d : D} (h : okD d = true) : plainD d = true ∧ SeqAt.shaped (pyOf d) = true := Bool.and_eq_true_iff.mp h
def seqD : D → Option (List D)
  | .lst xs => some xs
  | .tup xs => some xs
  | _ => none
def oIn (neg : Bool) : POp := fun d e k => match seqD e with
  | some xs => okD d = true ∧ okD (.lst xs) = true ∧ k (.sh (.bl (if neg then !(xs.any fun z => eqb z d) else xs.any fun z => eqb z d)))
  | none => False
section
variable {G : Gc}
theorem sim_eq : OpSim G (rEqD G.K) oEq := by
  intro σ Γ O H x y d e K0 Q E w1 w2 ⟨h1, h2, k⟩ hq
  obtain ⟨p1, s1⟩ := okD_iff h1
  obtain ⟨p2, s2⟩ := okD_iff h2
  exact ⟨pyOf d, pyOf e, w1.dp p1, w2.dp p2, s1, s2, hq _ k _ _ _ (.here E (.bl _))⟩
theorem sim_ne : OpSim G (rNeD G.K) oNe := by
  intro σ Γ O H x y d e K0 Q E w1 w2 ⟨h1, h2, k⟩ hq
  obtain ⟨p1, s1⟩ := okD_iff h1
  obtain ⟨p2, s2⟩ := okD_iff h2
  exact ⟨pyOf d, pyOf e, w1.dp p1, w2.dp p2, s1, s2, hq _ k _ _ _ (.here E (.bl _))⟩
theorem any_pyAll (d : D) : ∀ xs : List D, (pyAll xs).any (fun z => PyData.eqv z (pyOf d)) = xs.any fun z => eqb z d
  | [] => rfl
  | x :: xs => by rw [pyAll, List.any_cons, List.any_cons, any_pyAll d xs]; rfl
end
section
variable {X : Cx} {pos : Pos} {a b e : Expr} {ta tb : PEt}
/-- in over a list or a tuple of data -/
def rInS (K : PySem.W.Frag) (neg : Bool) : R2 := fun x y H Q => ∃ d ds, Dp K H x d ∧ (Dp K H y (.list ds) ∨ Dp K H y (.tuple ds)) ∧ SeqAt.shaped d = true ∧ SeqAt.shaped (.list ds) = true ∧ Q (.bl (if neg then !ds.any fun z => PyData.eqv z d else ds.any fun z => PyData.eqv z d)) H
theorem op_inS (hu : X.A.units + 65 < cLine) : OpR X (compareOp .In) (rInS X.K false) := by
  intro pins s σ H x y v u Q I rx ry h
  obtain ⟨d, ds, hd, he, sd, se, q⟩ := h
  obtain ⟨as, r1⟩ := Dp.reads I d x v hd rx
  rcases he with he | he
  · obtain ⟨bs, r2⟩ := Dp.reads I (.list ds) y u he ry
    exact SeqAt.in_list_reads r2 r1 (SeqAt.canLay_of_shaped se) (SeqAt.canLay_of_shaped sd) (PyProof.Rows.room_in_shaped sd hu) ⟨.bl _, H, I, rfl, q⟩
  · obtain ⟨bs, r2⟩ := Dp.reads I (.tuple ds) y u he ry
    exact SeqAt.in_tuple_reads r2 r1 (SeqAt.canLay_of_shaped se) (SeqAt.canLay_of_shaped sd) (PyProof.Rows.room_in_shaped sd hu) ⟨.bl _, H, I, rfl, q⟩
theorem op_notInS (hu : X.A.units + 65 < cLine) : OpR X (compareOp .NotIn) (rInS X.K true) := by
  intro pins s σ H x y v u Q I rx ry h
  obtain ⟨d, ds, hd, he, sd, se, q⟩ := h
  obtain ⟨as, r1⟩ := Dp.reads I d x v hd rx
  rcases he with he | he
  · obtain ⟨bs, r2⟩ := Dp.reads I (.list ds) y u he ry
    exact SeqAt.notIn_list_reads r2 r1 (SeqAt.canLay_of_shaped se) (SeqAt.canLay_of_shaped sd) (PyProof.Rows.room_in_shaped sd hu) ⟨.bl _, H, I, rfl, q⟩
  · obtain ⟨bs, r2⟩ := Dp.reads I (.tuple ds) y u he ry
    exact SeqAt.notIn_tuple_reads r2 r1 (SeqAt.canLay_of_shaped se) (SeqAt.canLay_of_shaped sd) (PyProof.Rows.room_in_shaped sd hu) ⟨.bl _, H, I, rfl, q⟩
theorem sim_in {G : Gc} {neg : Bool} : OpSim G (rInS G.K neg) (oIn neg) := by
  intro σ Γ O H x y d e K0 Q E w1 w2 h hq
  unfold oIn at h
  cases es : seqD e with
  | none => rw [es] at h; exact h.elim
  | some xs =>
    rw [es] at h
    obtain ⟨h1, h2, k⟩ := h
    obtain ⟨p1, s1⟩ := okD_iff h1
    obtain ⟨p2, s2⟩ := okD_iff h2
    have hk : EPost G O H σ Γ O H Γ (.bl (if neg then !(pyAll xs).any (fun z => PyData.eqv z (pyOf d)) else (pyAll xs).any fun z => PyData.eqv z (pyOf d))) (.sh (.bl (if neg then !(xs.any fun z => eqb z d) else xs.any fun z => eqb z d))) := by
      rw [any_pyAll]
      exact .here E (.bl _)
    cases e with
    | lst ys => cases es; exact ⟨pyOf d, pyAll xs, w1.dp p1, .inl (w2.dp p2), s1, s2, hq _ k _ _ _ hk⟩
    | tup ys => cases es; exact ⟨pyOf d, pyAll xs, w1.dp p1, .inr (w2.dp (by simpa [plainD] using p2)), s1, s2, hq _ k _ _ _ hk⟩
    | non => cases es
    | bl _ => cases es
    | int _ => cases es
    | str _ => cases es
    | dct _ => cases es
    | dcT _ => cases es
    | ins _ _ => cases es
    | cst _ => cases es
    | scr _ => cases es
end

def pNext : PSt := fun P Γ => P.nx Γ
def pSeq (t u : PSt) : PSt := fun P Γ => t { P with nx := u P } Γ
def pDrop (t : PEt) : PSt := fun P Γ => t Γ fun _ Γ1 => P.nx Γ1
def pRet (t : PEt) : PSt := fun P Γ => t Γ fun r Γ1 => P.rt r Γ1
def pRetN : PSt := fun P Γ => P.rt (.sh .non) Γ
def pIf (c : PTt) (t u : PSt) : PSt := fun P Γ => c Γ fun b Γ1 => (b = true → t P Γ1) ∧ (b = false → u P Γ1)
def pBreak : PSt := fun P Γ => P.bk Γ
def pCont : PSt := fun P Γ => P.ct Γ
def pNever : PSt := fun _ _ => False
section
variable {G : Gc} {O O' O1 O2 : Addr → Prop} {H H' H1 H2 : Hp} {σ σ' σ1 σ2 : St} {Γ Γ' Γ1 Γ2 : List Sl} {a : Addr} {v : V} {r : Rv} {B : Nat → Prop}
theorem SPost.refl (E : EnvR G O H σ Γ) : SPost G B O H σ Γ O H σ Γ := ⟨.refl, E, fun _ _ => rfl, rfl⟩
theorem SPost.trans (E : EnvR G O H σ Γ) (a : SPost G B O H σ Γ O1 H1 σ1 Γ1) (b : SPost G B O1 H1 σ1 Γ1 O2 H2 σ2 Γ2) : SPost G B O H σ Γ O2 H2 σ2 Γ2 :=
  ⟨a.frm.trans E.trk b.frm, b.env, fun i hi => (b.ref i hi).trans (a.ref i hi), b.len.trans a.len⟩
theorem TPost.s (p : TPost G O H σ Γ O' H' Γ') : SPost G B O H σ Γ O' H' σ Γ' := ⟨p.frm, p.env, fun _ _ => rfl, rfl⟩
theorem RPost.after (E : EnvR G O H σ Γ) (a : SPost G B O H σ Γ O1 H1 σ1 Γ1) (b : RPost G B O1 H1 σ1 Γ1 O2 H2 σ2 Γ2 v r) : RPost G B O H σ Γ O2 H2 σ2 Γ2 v r :=
  ⟨a.trans E b.sp, b.held, fun d x e1 e2 => a.frm.trk x (b.fresh d x e1 e2)⟩
theorem EPost.ret (p : EPost G O H σ Γ O' H' Γ' v r) : RPost G B O H σ Γ O' H' σ Γ' v r := ⟨p.t.s, p.held, p.fresh⟩
theorem EndsOk.after {P : PEnds} {D : Ends} (E : EnvR G O H σ Γ) (a : SPost G B O H σ Γ O1 H1 σ1 Γ1) (d : EndsOk G B O H σ Γ P D) : EndsOk G B O1 H1 σ1 Γ1 P D :=
  ⟨fun Γ' h σ' H' O' p => d.nx Γ' h σ' H' O' (a.trans E p), fun r Γ' h v σ' H' O' p => d.rt r Γ' h v σ' H' O' (.after E a p),
    fun Γ' h σ' H' O' p => d.bk Γ' h σ' H' O' (a.trans E p), fun Γ' h σ' H' O' p => d.ct Γ' h σ' H' O' (a.trans E p)⟩
theorem lift_seq {t u : PSt} : ∀ D σ H, liftS G B (pSeq t u) D σ H → tSeq (liftS G B t) (liftS G B u) D σ H := by
  intro D σ H ⟨O, Γ, P, E, ht, d⟩
  exact ⟨O, Γ, _, E, ht, ⟨fun Γ' h σ' H' O' p => ⟨O', Γ', P, p.env, h, d.after E p⟩, d.rt, d.bk, d.ct⟩⟩
theorem lift_drop {t : PEt} : ∀ D σ H, liftS G B (pDrop t) D σ H → tDrop (lift G t) D σ H := by
  intro D σ H ⟨O, Γ, P, E, ht, d⟩
  exact ⟨O, Γ, _, E, ht, fun r Γ' k v H' O' p => d.nx _ k _ _ _ p.t.s⟩
theorem lift_ret {t : PEt} : ∀ D σ H, liftS G B (pRet t) D σ H → tRet (lift G t) D σ H := by
  intro D σ H ⟨O, Γ, P, E, ht, d⟩
  exact ⟨O, Γ, _, E, ht, fun r Γ' k v H' O' p => d.rt _ _ k _ _ _ _ p.ret⟩
theorem lift_if {c : PTt} {t u : PSt} : ∀ D σ H, liftS G B (pIf c t u) D σ H → tIfS (liftT G c) (liftS G B t) (liftS G B u) D σ H := by
  intro D σ H ⟨O, Γ, P, E, ht, d⟩
  refine ⟨O, Γ, _, E, ht, fun b Γ' k H' O' p => ?_⟩
  cases b with
  | true => exact ⟨O', Γ', P, p.env, k.1 rfl, d.after E p.s⟩
  | false => exact ⟨O', Γ', P, p.env, k.2 rfl, d.after E p.s⟩
end
section
variable {X : Cx} {B : Nat → Prop} {pos : Pos} {st : Stmt} {sts : List Stmt} {e c : Expr} {te : PEt} {tc : PTt} {t u : PSt} {a b : List Stmt}
theorem qss_nil : QSs X B [] pNext := PSs.weak pss_nil fun D σ H ⟨O, Γ, P, E, ht, d⟩ => d.nx _ ht _ _ _ (.refl E)
theorem qss_cons (h1 : QS X B st t) (h2 : QSs X B sts u) : QSs X B (st :: sts) (pSeq t u) := PSs.weak (pss_cons h1 h2) lift_seq
theorem qss_one (h1 : QS X B st t) : QSs X B [st] t := pss_one h1
theorem qs_expr (he : QE X e te) (hs : swapsWith e none pos.line X.env = pure false := by rfl) : QS X B (.Expr e pos) (pDrop te) := PS.weak (ps_expr he hs) lift_drop
theorem qs_doc {x : Str} {j : Nat} {pos' : Pos} : QS X B (.Expr (.Constant (.str x) j pos) pos') pNext := PS.weak ps_doc fun D σ H ⟨O, Γ, P, E, ht, d⟩ => d.nx _ ht _ _ _ (.refl E)
theorem qs_pass : QS X B (.Pass pos) pNext := PS.weak ps_pass fun D σ H ⟨O, Γ, P, E, ht, d⟩ => d.nx _ ht _ _ _ (.refl E)
theorem qs_break : QS X B (.Break pos) pBreak := PS.weak ps_break fun D σ H ⟨O, Γ, P, E, ht, d⟩ => d.bk _ ht _ _ _ (.refl E)
theorem qs_continue : QS X B (.Continue pos) pCont := PS.weak ps_continue fun D σ H ⟨O, Γ, P, E, ht, d⟩ => d.ct _ ht _ _ _ (.refl E)
theorem qs_ret (he : QE X e te) : QS X B (.Return (some e) pos) (pRet te) := PS.weak (ps_ret he) lift_ret
theorem qs_retN : QS X B (.Return none pos) pRetN := PS.weak ps_retN fun D σ H ⟨O, Γ, P, E, ht, d⟩ => d.rt _ _ ht _ _ _ _ (EPost.here E .non).ret
theorem qs_if (hc : QT X c tc) (ha : QSs X B a t) (hb : QSs X B b u) : QS X B (.If c a b pos) (pIf tc t u) := PS.weak (ps_if hc ha hb) lift_if
theorem qs_never : QS X B st pNever := PS.weak ps_never fun D σ H ⟨O, Γ, P, E, ht, d⟩ => ht
theorem qss_never : QSs X B sts pNever := PSs.weak pss_never fun D σ H ⟨O, Γ, P, E, ht, d⟩ => ht
end
end PL

namespace PL
open PySem L2

section
variable {G : Gc} {O O' O1 O2 : Addr → Prop} {H H' H1 H2 : Hp} {σ σ' σ1 σ2 : St} {Γ Γ' Γ1 Γ2 : List Sl} {a : Addr} {v : V} {r : Rv} {B : Nat → Prop}
theorem SS.set_sh {i : Nat} {u : Option V} {d : D} {b : Addr} (h : SS (σ.set i u) (Γ.set i (.sh d)) b) : SS σ Γ b := by
  obtain ⟨j, e, e1, e2⟩ := h
  by_cases hj : i = j
  · subst hj
    by_cases hl : i < Γ.length
    · rw [List.getElem?_set_self hl] at e1; cases e1
    · rw [List.getElem?_eq_none (by simpa using hl)] at e1; cases e1
  · rw [List.getElem?_set_ne hj] at e1 e2
    exact ⟨j, e, e1, e2⟩
theorem SS.set_ow {i : Nat} {u : V} {d : D} {b : Addr} (h : SS (σ.set i (some u)) (Γ.set i (.ow d)) b) : SS σ Γ b ∨ u = .ref b := by
  obtain ⟨j, e, e1, e2⟩ := h
  by_cases hj : i = j
  · subst hj
    by_cases hl : i < σ.length
    · rw [List.getElem?_set_self hl] at e2; cases e2; exact .inr rfl
    · rw [List.getElem?_eq_none (by simpa using hl)] at e2; cases e2
  · rw [List.getElem?_set_ne hj] at e1 e2
    exact .inl ⟨j, e, e1, e2⟩
theorem EnvR.setSh (E : EnvR G O H σ Γ) {d : D} (r : Rep G O H v d) (i : Nat) : EnvR G O H (σ.set i (some v)) (Γ.set i (.sh d)) := by
  refine ⟨by simpa using E.len, fun j s e => ?_, fun j k b x y e1 e2 e3 e4 => ?_, E.trk⟩
  · by_cases hj : i = j
    · subst hj
      by_cases hl : i < Γ.length
      · rw [List.getElem?_set_self hl] at e
        cases e
        exact ⟨v, by rw [List.getElem?_set_self (by rw [E.len]; exact hl)], r⟩
      · rw [List.getElem?_eq_none (by simpa using hl)] at e; cases e
    · rw [List.getElem?_set_ne hj] at e ⊢
      exact E.sl j s e
  · have ne : ∀ {k : Nat} {z : D}, (Γ.set i (.sh d))[k]? = some (.ow z) → Γ[k]? = some (.ow z) ∧ i ≠ k := fun {k z} q => by
      by_cases hk : i = k
      · subst hk
        by_cases hl : i < Γ.length
        · rw [List.getElem?_set_self hl] at q; cases q
        · rw [List.getElem?_eq_none (by simpa using hl)] at q; cases q
      · rw [List.getElem?_set_ne hk] at q; exact ⟨q, hk⟩
    obtain ⟨e1', n1⟩ := ne e1
    obtain ⟨e2', n2⟩ := ne e2
    rw [List.getElem?_set_ne n1] at e3
    rw [List.getElem?_set_ne n2] at e4
    exact E.uni j k b x y e1' e2' e3 e4
theorem EnvR.setOw (E : EnvR G O H σ Γ) {d : D} (w : OwnD G O H a d) (o : O a) (n : ¬ SS σ Γ a) (i : Nat) : EnvR G O H (σ.set i (some (.ref a))) (Γ.set i (.ow d)) := by
  refine ⟨by simpa using E.len, fun j s e => ?_, fun j k b x y e1 e2 e3 e4 => ?_, E.trk⟩
  · by_cases hj : i = j
    · subst hj
      by_cases hl : i < Γ.length
      · rw [List.getElem?_set_self hl] at e
        cases e
        exact ⟨a, by rw [List.getElem?_set_self (by rw [E.len]; exact hl)], o, w⟩
      · rw [List.getElem?_eq_none (by simpa using hl)] at e; cases e
    · rw [List.getElem?_set_ne hj] at e ⊢
      exact E.sl j s e
  · by_cases hj : i = j
    · by_cases hk : i = k
      · rw [← hj, ← hk]
      · rw [List.getElem?_set_ne hk] at e2 e4
        subst hj
        have hl : i < σ.length := by
          by_cases hl : i < σ.length
          · exact hl
          · rw [List.getElem?_eq_none (by simpa using hl)] at e3; cases e3
        rw [List.getElem?_set_self hl] at e3
        cases e3
        exact absurd ⟨k, y, e2, e4⟩ n
    · rw [List.getElem?_set_ne hj] at e1 e3
      by_cases hk : i = k
      · subst hk
        have hl : i < σ.length := by
          by_cases hl : i < σ.length
          · exact hl
          · rw [List.getElem?_eq_none (by simpa using hl)] at e4; cases e4
        rw [List.getElem?_set_self hl] at e4
        cases e4
        exact absurd ⟨j, x, e1, e3⟩ n
      · rw [List.getElem?_set_ne hk] at e2 e4
        exact E.uni j k b x y e1 e2 e3 e4
/-- a name is stored: a new object becomes the slot's own -/
def st (Γ : List Sl) (i : Nat) : Rv → (List Sl → Prop) → Prop
  | .fr d, k => k (put Γ i (.ow d))
  | .sh d, k => k (put Γ i (.sh d))
  | .bo j, k => fz Γ (.bo j) fun d Γ1 => k (put Γ1 i (.sh d))
theorem SPost.store {k : List Sl → Prop} {i : Nat} (E : EnvR G O H σ Γ) (p : EPost G O H σ Γ O' H' Γ' v r) (hi : ¬ B i) (h : st Γ' i r k) : ∃ Γ2 O2, k Γ2 ∧ SPost G B O H σ Γ O2 H' (σ.set i (some v)) Γ2 := by
  have shc : ∀ {d : D} {O2 : Addr → Prop} {Γ2 : List Sl}, EPost G O H σ Γ O2 H' Γ2 v (.sh d) → SPost G B O H σ Γ O2 H' (σ.set i (some v)) (put Γ2 i (.sh d)) := fun {d O2 Γ2} q => by
    rw [put_eq]
    refine ⟨⟨q.frm.at_, q.frm.new, q.frm.old, fun b z => q.frm.own b z.set_sh, q.frm.trk⟩, q.env.setSh q.held i, fun j hj => List.getElem?_set_ne fun z => hi (by rw [z]; exact hj), by simp⟩
  cases r with
  | sh d => exact ⟨_, _, h, shc p⟩
  | bo j =>
    obtain ⟨d, Γ2, O2, kd, q⟩ := p.fz E h
    exact ⟨_, _, kd, shc q⟩
  | fr d =>
    obtain ⟨a, e, o, n, w⟩ := p.held
    have hn := p.fresh d a rfl e
    refine ⟨_, O', h, ?_⟩
    rw [put_eq, e]
    refine ⟨⟨p.frm.at_, p.frm.new, p.frm.old, fun b z => ?_, p.frm.trk⟩, p.env.setOw w o n i, fun j hj => List.getElem?_set_ne fun z => hi (by rw [z]; exact hj), by simp⟩
    rcases z.set_ow with z | z
    · exact p.frm.own b z
    · cases z; exact .inr hn
end

abbrev PGt := D → List Sl → (List Sl → Prop) → Prop
abbrev PGst := List D → List Sl → (List Sl → Prop) → Prop
section
variable (G : Gc)
def liftG (B : Nat → Prop) (t : PGt) : TG := fun v σ H Q => ∃ O Γ d P, EnvR G O H σ Γ ∧ Rep G O H v d ∧ t d Γ P ∧ ∀ Γ', P Γ' → ∀ σ' H' O', SPost G B O H σ Γ O' H' σ' Γ' → Q σ' H'
def liftGs (B : Nat → Prop) (t : PGst) : TGs := fun vs σ H Q => ∃ O Γ ds P, EnvR G O H σ Γ ∧ Reps G O H vs ds ∧ t ds Γ P ∧ ∀ Γ', P Γ' → ∀ σ' H' O', SPost G B O H σ Γ O' H' σ' Γ' → Q σ' H'
end
def QG (X : Cx) (B : Nat → Prop) (e : Expr) (t : PGt) : Prop := PG X e (liftG (gc X) B t)
def QGs (X : Cx) (B : Nat → Prop) (es : List Expr) (t : PGst) : Prop := PGs X es (liftGs (gc X) B t)
theorem PG.weak {X : Cx} {e : Expr} {t t' : TG} (h : PG X e t) (k : ∀ v σ H Q, t' v σ H Q → t v σ H Q) : PG X e t' := ⟨fun pins s σ H v u Q I r q => h.run pins s σ H v u Q I r (k _ _ _ _ q)⟩
theorem PGs.weak {X : Cx} {es : List Expr} {t t' : TGs} (h : PGs X es t) (k : ∀ v σ H Q, t' v σ H Q → t v σ H Q) : PGs X es t' := ⟨fun pins s σ H vs us Q I r q => h.run pins s σ H vs us Q I r (k _ _ _ _ q)⟩
def gN (i : Nat) : PGt := fun d Γ P => P (put Γ i (.sh d))
def gsNil : PGst := fun ds Γ P => match ds with
  | [] => P Γ
  | _ => False
def gsCons (t : PGt) (u : PGst) : PGst := fun ds Γ P => match ds with
  | d :: r => t d Γ fun Γ1 => u r Γ1 P
  | [] => False
def gT (n : Nat) (t : PGst) : PGt := fun d Γ P => match d with
  | .tup ds => ds.length = n ∧ t ds Γ P
  | _ => False
section
variable {X : Cx} {B : Nat → Prop} {pos : Pos} {e : Expr} {es : List Expr} {t : PGt} {u : PGst}
theorem qg_name {i : Nat} {x : Str} (hN : X.N.Nodup) (hi : X.N[i]? = some x) (hx : Loc X.env.scope x) (hB : ¬ B i := by decide) (hf : X.fn x = true ∨ X.env.scope.names.lookup x = some .local := by first | exact .inl rfl | exact .inr rfl | assumption) : QG X B (.Name x pos) (gN i) :=
  PG.weak (pg_name hN hi hx hf) fun v σ H Q ⟨O, Γ, d, P, E, r, ht, hq⟩ => by
    obtain ⟨Γ2, O2, k, p⟩ := SPost.store (B := B) (k := P) E (EPost.here E r) hB ht
    exact hq _ k _ _ _ p
theorem qgs_nil : QGs X B [] gsNil := PGs.weak pgs_nil fun vs σ H Q ⟨O, Γ, ds, P, E, r, ht, hq⟩ => by
  cases r with
  | nil => exact ⟨rfl, hq _ ht _ _ _ (.refl E)⟩
  | cons h t => exact ht.elim
theorem qgs_cons (h1 : QG X B e t) (h2 : QGs X B es u) (hs : (assignEach (e :: es) X.env).map (·.2) = assign e X.env :: (assignEach es X.env).map (·.2) := by rfl) : QGs X B (e :: es) (gsCons t u) :=
  PGs.weak (pgs_cons h1 h2 hs) fun vs σ H Q ⟨O, Γ, ds, P, E, r, ht, hq⟩ => by
    cases r with
    | nil => exact ht.elim
    | cons h r =>
      exact ⟨_, _, rfl, O, Γ, _, _, E, h, ht, fun Γ1 k σ1 H1 O1 p1 => ⟨O1, Γ1, _, P, p1.env, r.frm E p1.frm, k, fun Γ2 k2 σ2 H2 O2 p2 => hq Γ2 k2 σ2 H2 O2 (p1.trans E p2)⟩⟩
theorem qg_tup {k n : Nat} (hc : X.calm = true) (h : QGs X B es u) (hn : (assignEach es X.env).length = n := by rfl) (hst : (assignEach es X.env).findIdx? (·.1) = none := by rfl) : QG X B (.Tuple es k pos) (gT n u) :=
  PG.weak (pg_tup hc h hn hst) fun v σ H Q ⟨O, Γ, d, P, E, r, ht, hq⟩ => by
    unfold gT at ht
    split at ht
    · rename_i ds
      obtain ⟨a, vs, rfl, hs, rr, _⟩ := (show Vw (gc X) O H v (.tup ds) from .inl r).tup
      exact ⟨a, vs, rfl, hs, rr.length.trans ht.1, O, Γ, ds, P, E, rr, ht.2, hq⟩
    · exact ht.elim
/-- name = e -/
def pSet (i : Nat) (te : PEt) : PSt := fun P Γ => te Γ fun r Γ1 => st Γ1 i r P.nx
theorem lift_set {G : Gc} {i : Nat} {te : PEt} (hB : ¬ B i) : ∀ D σ H, liftS G B (pSet i te) D σ H → tAsg (lift G te) (gName i) D σ H := by
  intro D σ H ⟨O, Γ, P, E, ht, d⟩
  refine ⟨O, Γ, _, E, ht, fun r Γ1 k v H1 O1 p => ?_⟩
  obtain ⟨Γ2, O2, k2, q⟩ := SPost.store (B := B) E p hB k
  exact d.nx Γ2 k2 _ _ _ q
theorem qs_set {i : Nat} {x : Str} {te : PEt} {pos' : Pos} (hN : X.N.Nodup) (hi : X.N[i]? = some x) (hx : Loc X.env.scope x) (he : QE X e te) (hB : ¬ B i := by decide) (hs : swapsWith e (some (.Name x pos')) pos.line X.env = pure false := by rfl) (hf : X.fn x = true ∨ X.env.scope.names.lookup x = some .local := by first | exact .inl rfl | exact .inr rfl | assumption) :
    QS X B (.Assign [.Name x pos'] e pos) (pSet i te) := PS.weak (ps_set hN hi hx he hs hf) (lift_set hB)
/-- target = e, the value shared -/
def pAsg (te : PEt) (g : PGt) : PSt := fun P Γ => te Γ fun r Γ1 => fz Γ1 r fun d Γ2 => g d Γ2 P.nx
theorem qs_asg {tg : Expr} {te : PEt} {g : PGt} (he : QE X e te) (hg : QG X B tg g) (hs : swapsWithSole [tg] e pos.line X.env = pure false := by rfl) (hw : swappedStores [tg] e X.env = pure none := by rfl)
    (h1 : (assignEach [tg] X.env).map (·.2) = [assign tg X.env] := by rfl) : QS X B (.Assign [tg] e pos) (pAsg te g) := PS.weak (ps_asg he hg hs hw h1) fun D σ H ⟨O, Γ, P, E, ht, d⟩ => by
  refine ⟨O, Γ, _, E, ht, fun r Γ1 k v H1 O1 p => ?_⟩
  obtain ⟨x, Γ2, O2, k2, q⟩ := p.fz E k
  exact ⟨O2, Γ2, x, _, q.env, q.held, k2, fun Γ3 k3 σ3 H3 O3 p3 => d.nx Γ3 k3 σ3 H3 O3 (q.t.s.trans E p3)⟩
/-- a, b = x, y of plain local names -/
def pPar (i j : Nat) (ta : PAt) : PSt := fun P Γ => ta Γ fun rs Γ1 => fzA Γ1 rs fun ds Γ2 => match ds with
  | [d, e] => P.nx (put (put Γ2 i (.sh d)) j (.sh e))
  | _ => False
theorem qs_par {i j : Nat} {x y : Str} {a b : Expr} {ta : PAt} {px py pt : Pos} {kt k2 : Nat} {pt2 : Pos} (hc : X.calm = true) (hN : X.N.Nodup) (hi : X.N[i]? = some x) (hj : X.N[j]? = some y) (hij : i ≠ j) (hx : X.env.scope.names.lookup x = some .local) (hy : X.env.scope.names.lookup y = some .local) (ha : QA' X [a, b] ta)
    (hw : swappedStores [.Tuple [.Name x px, .Name y py] kt pt] (.Tuple [a, b] k2 pt2) X.env = pure (some [x, y])) (hB : ¬ B i ∧ ¬ B j := by decide)
    (hs : swapsWithSole [.Tuple [.Name x px, .Name y py] kt pt] (.Tuple [a, b] k2 pt2) pos.line X.env = pure false := by rfl) :
    QS X B (.Assign [.Tuple [.Name x px, .Name y py] kt pt] (.Tuple [a, b] k2 pt2) pos) (pPar i j ta) := PS.weak (ps_par hc hN hi hj hij hx hy ha hw hs) fun D σ H ⟨O, Γ, P, E, ht, dd⟩ => by
  refine ⟨O, Γ, _, E, ht, fun rs Γ1 k nf vs H1 O1 p => ?_⟩
  obtain ⟨ds, Γ2, O2, kd, p2, rr⟩ := fzA_ok p.env p.helds nf k
  cases rr with
  | nil => exact kd.elim
  | cons h1 rr =>
    cases rr with
    | nil => exact kd.elim
    | cons h2 rr =>
      cases rr with
      | cons h3 rr => exact kd.elim
      | nil =>
        refine ⟨_, _, rfl, ?_⟩
        have t2 := p.t.trans E p2
        obtain ⟨Γ3, O3, e3, p3⟩ := SPost.store (B := B) (k := fun Γ3 => Γ3 = put Γ2 i (.sh _)) p2.env (EPost.here p2.env h1) hB.1 rfl
        subst e3
        obtain ⟨Γ4, O4, e4, p4⟩ := SPost.store (B := B) (k := fun Γ4 => Γ4 = put (put Γ2 i (.sh _)) j (.sh _)) p3.env (EPost.here p3.env (h2.frm p2.env p3.frm)) hB.2 rfl
        subst e4
        exact dd.nx _ kd _ _ _ (t2.s.trans E (p3.trans p2.env p4))
end
end PL

namespace PL
open PySem L2

section
variable {G : Gc} {O O' O1 O2 : Addr → Prop} {H H' H1 H2 : Hp} {σ σ' σ1 σ2 : St} {Γ Γ' Γ1 Γ2 : List Sl} {a : Addr} {v : V} {r : Rv} {B : Nat → Prop}
/-- the own object of slot j gets another content -/
theorem EnvR.wrote (E : EnvR G O H σ Γ) {j : Nat} {d d' : D} {o : HO} (hj : Γ[j]? = some (.ow d)) (ha : σ[j]? = some (some (.ref a))) (w : OwnD G O (upd H a o) a d') : TPost G O H σ Γ O (upd H a o) (put Γ j (.ow d')) := by
  obtain ⟨a', e1, oa, w0⟩ := E.sl j _ hj
  rw [ha] at e1
  cases e1
  have k : Kp O H O (upd H a o) := Kp.wrote oa
  have hl : j < Γ.length := (List.getElem?_eq_some_iff.mp hj).1
  have sa : SS σ Γ a := ⟨j, d, hj, ha⟩
  have back : ∀ {i : Nat} {x : D}, (Γ.set j (.ow d'))[i]? = some (.ow x) → ∃ y, Γ[i]? = some (.ow y) := fun {i x} q => by
    by_cases hi : j = i
    · subst hi; exact ⟨d, hj⟩
    · rw [List.getElem?_set_ne hi] at q; exact ⟨x, q⟩
  rw [put_eq]
  refine ⟨⟨fun b u e n => ?_, fun _ h => .inl h, fun _ h _ => h, fun b ⟨i, x, e1, e2⟩ => ?_, fun b h => ?_⟩, ⟨by simpa using E.len, fun i s e => ?_, fun i i' b x y e1 e2 e3 e4 => ?_, fun b h z => ?_⟩⟩
  · rw [upd_ne fun z => n (by rw [z]; exact sa)]; exact e
  · obtain ⟨y, ey⟩ := back e1
    exact .inl ⟨i, y, ey, e2⟩
  · by_cases hb : b = a
    · rw [hb, upd_same] at h; cases h
    · rw [upd_ne hb] at h; exact h
  · by_cases hi : j = i
    · subst hi
      rw [List.getElem?_set_self hl] at e
      cases e
      exact ⟨a, ha, oa, w⟩
    · rw [List.getElem?_set_ne hi] at e
      refine (E.sl i s e).keep k fun b x es eb => ⟨E.sub ⟨i, x, by rw [e, es], eb⟩, upd_ne fun z => ?_⟩
      subst z
      subst es
      exact hi (E.uni j i b d x hj e ha eb)
  · obtain ⟨x', ex⟩ := back e1
    obtain ⟨y', ey⟩ := back e2
    exact E.uni i i' b x' y' ex ey e3 e4
  · by_cases hb : b = a
    · rw [hb, upd_same] at z; cases z
    · rw [upd_ne hb] at z; exact E.trk b h z
theorem Kp.ofWrote {a : Addr} {o : HO} (h : O a) : Kp O H O (upd H a o) := Kp.wrote h
end

def setIx : Rv → D → D → List Sl → (List Sl → Prop) → Prop
  | .bo j, .int k, d, Γ, K => match nth Γ j with
    | .ow (.lst ds) => ∃ n, ixN ds.length k = some n ∧ K (put Γ j (.ow (.lst (ds.set n d))))
    | _ => False
  | _, _, _, _, _ => False
section
variable {G : Gc} {O O' O1 O2 : Addr → Prop} {H H' H1 H2 : Hp} {σ σ' σ1 σ2 : St} {Γ Γ' Γ1 Γ2 : List Sl} {a : Addr} {v : V} {r : Rv} {B : Nat → Prop}
theorem setIx_ok {ov iv vv : V} {di d : D} {K : List Sl → Prop} {Q : Hp → Prop} (E : EnvR G O H σ Γ) (h : Held G O H σ Γ ov r) (wi : Vw G O H iv di) (rd : Rep G O H vv d) (q : setIx r di d Γ K) (hQ : ∀ Γ' H', K Γ' → TPost G O H σ Γ O H' Γ' → Q H') : rSetL ov iv vv H Q := by
  unfold setIx at q
  split at q
  · rename_i j k
    split at q
    · rename_i ds e
      obtain ⟨n, hn, k⟩ := q
      obtain ⟨a, ea, oa, vs, ha, ra⟩ := E.sl j _ (nth_ow e)
      have hv : σ[j]? = some (some ov) := h
      rw [hv] at ea
      cases ea
      rw [wi.int]
      exact ⟨a, vs, _, n, rfl, rfl, ha, by rw [ra.length]; exact hn, hQ _ _ k (E.wrote (nth_ow e) hv ⟨_, upd_same, (ra.set rd n).keep (Kp.wrote oa)⟩)⟩
    · exact q.elim
  · exact q.elim
end
/-- o[i] = e -/
def pSetIx (te to ti : PEt) : PSt := fun P Γ => te Γ fun r Γ1 => fz Γ1 r fun d Γ2 => to Γ2 fun ro Γ3 => ti Γ3 fun ri Γ4 => wd Γ4 ri fun di => setIx ro di d Γ4 P.nx
section
variable {X : Cx} {B : Nat → Prop} {pos tpos : Pos} {e o i : Expr} {te to ti : PEt}
theorem qs_setIx (he : QE X e te) (ho : QE X o to) (hi : QE X i ti)
    (ha : ∀ v, assign (.Subscript o i tpos) X.env v = (do
      let ov ← holding [v] (eval o X.env)
      let iv ← holding [v, ov] (eval i X.env)
      standAt tpos
      holding [v, ov, iv] (setItem ov iv v)
      release [v, ov, iv] []) := by intro _; rfl)
    (hs : swapsWithSole [.Subscript o i tpos] e pos.line X.env = pure false := by rfl) (hw : swappedStores [.Subscript o i tpos] e X.env = pure none := by rfl)
    (h1 : (assignEach [.Subscript o i tpos] X.env).map (·.2) = [assign (.Subscript o i tpos) X.env] := by rfl) : QS X B (.Assign [.Subscript o i tpos] e pos) (pSetIx te to ti) :=
  PS.weak (ps_asg he (pg_sub ho hi set_list ha) hs hw h1) fun D σ H ⟨O, Γ, P, E, ht, dd⟩ => by
    refine ⟨O, Γ, _, E, ht, fun r Γ1 k v H1 O1 p1 => ?_⟩
    obtain ⟨d, Γ2, O2, k2, q2⟩ := p1.fz E k
    refine ⟨O2, Γ2, _, q2.env, k2, fun ro Γ3 k3 ov H3 O3 p3 => ⟨O3, Γ3, _, p3.env, k3, fun ri Γ4 k4 iv H4 O4 p4 => ?_⟩⟩
    obtain ⟨di, kd, w⟩ := p4.held.wd p4.env k4
    have rd : Rep (gc X) O4 H4 v d := (Rep.frm q2.held q2.env p3.frm).frm p3.env p4.frm
    refine setIx_ok p4.env (p3.held.frm p3.env p4.frm) w rd kd fun Γ' H' k5 t5 => dd.nx _ k5 _ _ _ ((((q2.t.trans E p3.t).trans E p4.t).trans E t5)).s
/-- o[i] += e (ints) -/
def asSh : Rv → (D → Prop) → Prop
  | .sh d, k => k d
  | _, _ => False
def oIpAdd : POp
  | .int i, .int j, k => k (.sh (.int (i + j)))
  | _, _, _ => False
def oIxL : POp
  | .lst xs, .int i, k => ∃ d, atI xs i = some d ∧ k (.sh d)
  | _, _, _ => False
theorem sim_ixL {G : Gc} : OpSim G (rIxL G.K) oIxL := by
  intro σ Γ O H x y d e K0 Q E w1 w2 h hq
  unfold oIxL at h
  split at h
  · obtain ⟨d, hd, k⟩ := h
    obtain ⟨a, vs, rfl, ha, ra⟩ := w1.lst
    obtain ⟨v, hv, rv⟩ := atI_rep ra hd
    rw [w2.int]
    exact ⟨a, vs, _, v, rfl, rfl, .of ha, hv, hq _ k _ _ _ (.here E rv)⟩
  · exact h.elim
theorem sim_ipadd {x y : V} {d e : D} {G : Gc} {O : Addr → Prop} {H : Hp} {k : Rv → Prop} {Q : VK} (w1 : Vw G O H x d) (w2 : Vw G O H y e) (h : oIpAdd d e k) (hQ : ∀ i : Int, k (.sh (.int i)) → Q (.int i) H) : ipI (fun i j => i + j) x y H Q := by
  unfold oIpAdd at h
  split at h
  · rw [w1.int, w2.int]; exact ⟨_, _, rfl, rfl, hQ _ h⟩
  · exact h.elim
def pAugIx (to ti te : PEt) : PSt := fun P Γ => to Γ fun ro Γ1 => ti Γ1 fun ri Γ2 => wd Γ2 ro fun dO => wd Γ2 ri fun di => oIxL dO di fun r3 => asSh r3 fun d3 => te Γ2 fun r4 Γ3 => wd Γ3 r4 fun d4 => oIpAdd d3 d4 fun r5 => asSh r5 fun d5 =>
  wd Γ3 ri fun di' => setIx ro di' d5 Γ3 P.nx
theorem get_list : PGet X (rIxL X.K) := by
  intro pins s σ H x y v u Q I rx ry h
  obtain ⟨p, xs, i, z, rfl, rfl, hq, he, q⟩ := h
  cases rx
  obtain ⟨t, rfl⟩ := ry
  obtain ⟨its, r, pl, hz⟩ := I.list hq
  obtain ⟨j, h1, h2, h3, h4, h5⟩ := atI_get he
  obtain ⟨w, ew, rw'⟩ := r.get h2
  have hl := r.length
  have hn := line63
  have fin : EP X pins σ Q w s := ⟨z, H, I, rw', q⟩
  by_cases h0 : 0 ≤ i
  · have hj : i.toNat = j := by
      rw [PySem.seqIndex_of h0 h5] at h1
      exact Option.some.inj h1
    exact wpAny_getItem_list pl.isList h0 (by omega) (by rw [hj]; simpa using ew) fin
  · have hj : (i + (its.toArray.size : Int)).toNat = j := by
      rw [PySem.seqIndex_neg (by omega) h4] at h1
      rw [List.size_toArray, ← hl]
      exact Option.some.inj h1
    exact wpAny_getItem_list_neg pl.isList (by omega) (by rw [List.size_toArray] <;> omega) (by omega) (by rw [hj]; simpa using ew) fin
theorem qs_augIx (ho : QE X o to) (hi : QE X i ti) (he : QE X e te)
    (ha : ∀ ov iv new, augStore i ov iv new = (do holding [new, ov, iv] (setItem ov iv new); release [new, ov, iv] []; pure .next) := by intros; rfl) : QS X B (.AugAssign (.Subscript o i tpos) .Add e pos) (pAugIx to ti te) :=
  PS.weak (ps_augS ho hi get_list he ip_add set_list ha) fun D σ H ⟨O, Γ, P, E, ht, dd⟩ => by
    refine ⟨O, Γ, _, E, ht, fun ro Γ1 k1 ov H1 O1 p1 => ⟨O1, Γ1, _, p1.env, k1, fun ri Γ2 k2 iv H2 O2 p2 => ?_⟩⟩
    have ho2 := p1.held.frm p1.env p2.frm
    obtain ⟨dO, kO, wO⟩ := ho2.wd p2.env k2
    obtain ⟨di, ki, wi⟩ := p2.held.wd p2.env kO
    refine sim_ixL σ Γ2 O2 H2 ov iv dO di _ _ p2.env wO wi ki fun r3 k3 x3 H3 O3 p3 => ?_
    unfold asSh at k3
    split at k3
    · rename_i d3
      refine ⟨O3, Γ2, _, p3.env, k3, fun r4 Γ4 k4 v4 H4 O4 p4 => ?_⟩
      obtain ⟨d4, kd4, w4⟩ := p4.held.wd p4.env k4
      have w3 : Vw (gc X) O4 H4 x3 d3 := .inl (Rep.frm p3.held p3.env p4.frm)
      refine sim_ipadd w3 w4 kd4 fun n kn => ?_
      have kn : wd Γ4 ri fun di' => setIx ro di' (.int n) Γ4 P.nx := kn
      have hi4 := (p2.held.frm p2.env p3.frm).frm p3.env p4.frm
      obtain ⟨di', kd', wi'⟩ := hi4.wd p4.env kn
      have t4 := (((p1.t.trans E p2.t).trans E p3.t).trans E p4.t)
      refine setIx_ok p4.env ((ho2.frm p2.env p3.frm).frm p3.env p4.frm) wi' (.int n) kd' fun Γ' H' k5 t5 => dd.nx _ k5 _ _ _ (t4.trans E t5).s
    · exact k3.elim
/-- x += e (ints) -/
def pAug (i : Nat) (te : PEt) : PSt := fun P Γ => wds (nth Γ i) fun d => te Γ fun r Γ1 => wd Γ1 r fun e => oIpAdd d e fun r => st Γ1 i r P.nx
theorem qs_aug {i : Nat} {x : Str} {pos' : Pos} (hN : X.N.Nodup) (hi : X.N[i]? = some x) (hx : Loc X.env.scope x) (he : QE X e te) (hB : ¬ B i := by decide) (hf : X.fn x = true ∨ X.env.scope.names.lookup x = some .local := by first | exact .inl rfl | exact .inr rfl | assumption) :
    QS X B (.AugAssign (.Name x pos') .Add e pos) (pAug i te) := PS.weak (ps_aug hN hi hx he ip_add hf) fun D σ H ⟨O, Γ, P, E, ht, dd⟩ => by
  have ht : wds (nth Γ i) fun d => te Γ fun r Γ1 => wd Γ1 r fun e => oIpAdd d e fun r => st Γ1 i r P.nx := ht
  have fin : ∀ {v : V} {d : PL.D}, σ[i]? = some (some v) → (∀ j, d = .int j → v = .int j) → (te Γ fun r Γ1 => wd Γ1 r fun e => oIpAdd d e fun r => st Γ1 i r P.nx) → tAug i (lift (gc X) te) (ipI fun i j => i + j) D σ H := fun {v d} ev iv ht => by
    refine ⟨v, ev, O, Γ, _, E, ht, fun r Γ1 k y H1 O1 p1 => ?_⟩
    obtain ⟨e', ke, w⟩ := p1.held.wd p1.env k
    unfold oIpAdd at ke
    split at ke
    · rename_i n m
      rw [iv n rfl, w.int]
      refine ⟨n, m, rfl, rfl, ?_⟩
      obtain ⟨Γ3, O3, k3, p3⟩ := SPost.store (B := B) p1.env (EPost.here p1.env (Rep.int (n + m))) hB ke
      exact dd.nx _ k3 _ _ _ (p1.t.s.trans E p3)
    · exact ke.elim
  cases es : nth Γ i with
  | un => rw [es] at ht; exact ht.elim
  | sh d =>
    rw [es] at ht
    obtain ⟨v, ev, rv⟩ := E.sl i _ (nth_sh es)
    exact fin ev (fun j e => by subst e; cases rv; rfl) ht
  | ow d =>
    rw [es] at ht
    obtain ⟨a, ev, _, w⟩ := E.sl i _ (nth_ow es)
    exact fin ev (fun j e => by subst e; exact w.elim) ht

def setAt : List D → Nat → D → Option (List D)
  | [], 0, d => some [d]
  | [], _ + 1, _ => none
  | _ :: r, 0, d => some (d :: r)
  | x :: r, n + 1, d => match setAt r n d with
    | some r' => some (x :: r')
    | none => none
def setFs (xs : List D) (d : D) (K : List D → Prop) : Option Nat → Prop
  | some m => match setAt xs m d with
    | some ys => K ys
    | none => False
  | none => False
def setF (sel : Nat → Option Nat) (ro : Rv) (d : D) (Γ : List Sl) (K : List Sl → Prop) : Prop := match ro with
  | .bo j => match nth Γ j with
    | .ow (.ins c xs) => setFs xs d (fun ys => K (put Γ j (.ow (.ins c ys)))) (sel c)
    | _ => False
  | _ => False
theorem putF_at : ∀ {fvs : List (Str × V)} {ks : List Str} {m : Nat} {f : Str} {v : V}, ks.Nodup → ks[m]? = some f → fvs.map (·.1) = ks.take fvs.length → m ≤ fvs.length →
    (putF f v fvs).map (·.1) = ks.take (putF f v fvs).length ∧ ∀ {G : Gc} {O : Addr → Prop} {H : Hp} {ds ys : List D} {d : D}, Reps G O H (fvs.map (·.2)) ds → Rep G O H v d → setAt ds m d = some ys → Reps G O H ((putF f v fvs).map (·.2)) ys
  | [], ks, m, f, v, nd, hf, hk, hm => by
    have hm : m = 0 := by simpa using hm
    subst hm
    cases ks with
    | nil => simp at hf
    | cons k ks =>
      simp at hf
      subst hf
      refine ⟨rfl, fun {G O H ds ys d} r rv e => ?_⟩
      cases r
      cases e
      exact .cons rv .nil
  | (g, w) :: fvs, ks, m, f, v, nd, hf, hk, hm => by
    cases ks with
    | nil => simp at hf
    | cons k ks =>
      have hk' : g = k ∧ fvs.map (·.1) = ks.take fvs.length := by simpa using hk
      obtain ⟨rfl, hk'⟩ := hk'
      have nd' := List.nodup_cons.mp nd
      cases m with
      | zero =>
        simp at hf
        subst hf
        have e : putF g v ((g, w) :: fvs) = (g, v) :: fvs := by unfold putF; rw [if_pos rfl]
        rw [e]
        refine ⟨by simpa using hk', fun {G O H ds ys d} r rv e => ?_⟩
        cases ds with
        | nil => cases r
        | cons d0 ds =>
          cases r with
          | cons r0 r => cases e; exact .cons rv r
      | succ m =>
        have hf' : ks[m]? = some f := by simpa using hf
        have ne : ¬ g = f := fun z => nd'.1 (by rw [z]; exact List.mem_of_getElem? hf')
        have e : putF f v ((g, w) :: fvs) = (g, w) :: putF f v fvs := by
          show (if g = f then _ else _) = _
          rw [if_neg ne]
        rw [e]
        obtain ⟨h1, h2⟩ := putF_at (fvs := fvs) (v := v) nd'.2 hf' hk' (by simpa using hm)
        refine ⟨by simpa using h1, fun {G O H ds ys d} r rv e => ?_⟩
        cases ds with
        | nil => cases r
        | cons d0 ds =>
          cases r with
          | cons r0 r =>
            unfold setAt at e
            cases q : setAt ds m d with
            | none => rw [q] at e; cases e
            | some r' => rw [q] at e; cases e; exact .cons r0 (h2 r rv q)
theorem setAt_le : ∀ {ds ys : List D} {m : Nat} {d : D}, setAt ds m d = some ys → m ≤ ds.length
  | [], _, 0, _, _ => Nat.le_refl _
  | [], _, m + 1, _, h => by cases h
  | _ :: _, _, 0, _, _ => Nat.zero_le _
  | x :: r, ys, m + 1, d, h => by
    unfold setAt at h
    cases q : setAt r m d with
    | none => rw [q] at h; cases h
    | some r' => exact Nat.succ_le_succ (setAt_le q)
def pSetF (sel : Nat → Option Nat) (te to : PEt) : PSt := fun P Γ => te Γ fun r Γ1 => fz Γ1 r fun d Γ2 => to Γ2 fun ro Γ3 => setF sel ro d Γ3 P.nx
theorem qs_setF {f : Str} {pos' : Pos} {sel : Nat → Option Nat} (hsel : ∀ c j, sel c = some j → Att X c j f) (ho : QE X o to) (he : QE X e te) (hs : swapsWith e (some (.Attribute o f pos')) pos.line X.env = pure false := by rfl) :
    QS X B (.Assign [.Attribute o f pos'] e pos) (pSetF sel te to) := PS.weak (ps_fld ho he hs) fun D σ H ⟨O, Γ, P, E, ht, dd⟩ => by
  refine ⟨O, Γ, _, E, ht, fun r Γ1 k v H1 O1 p1 => ?_⟩
  obtain ⟨d, Γ2, O2, k2, q2⟩ := p1.fz E k
  refine ⟨O2, Γ2, _, q2.env, k2, fun ro Γ3 k3 ov H3 O3 p3 => ?_⟩
  unfold setF at k3
  split at k3
  · rename_i j
    split at k3
    · rename_i c xs ee
      cases es : sel c with
      | none => rw [es] at k3; exact k3.elim
      | some m =>
        rw [es] at k3
        cases eq : setAt xs m d with
        | none => simp only [setFs, eq] at k3
        | some ys =>
          simp only [setFs, eq] at k3
          obtain ⟨⟨C, hm, cl, na⟩, ix, nd⟩ := hsel c m es
          have hv : σ[j]? = some (some ov) := p3.held
          obtain ⟨a, ea, oa, C', dx, fvs, hc, ha, hk, rr⟩ := p3.env.sl j _ (nth_ow ee)
          rw [hv] at ea
          cases ea
          have hC : C' = C := by
            have z := (show X.mg (ct c).1 = some (.ref C') from hc).symm.trans hm
            cases z; rfl
          subst hC
          have hl : fvs.length = xs.length := by have := rr.length; simpa using this
          have small : fvs.length < 1000 := by
            have h1 := setAt_le eq
            have h2 : m < (ct c).2.length := (List.getElem?_eq_some_iff.mp ix).1
            have h3 := congrArg List.length hk
            rw [List.length_map, List.length_take] at h3
            have h4 : (ct c).2.length < 1000 := by
              unfold ct
              split <;> decide
            omega
          obtain ⟨h1, h2⟩ := putF_at (fvs := fvs) (v := v) nd ix (by rw [hl]; exact hk) (by rw [hl]; exact setAt_le eq)
          have rd : Rep (gc X) O3 H3 v d := Rep.frm q2.held q2.env p3.frm
          have ry := h2 rr rd eq
          have ky : (putF f v fvs).length = ys.length := by have := ry.length; simpa using this
          have w' : OwnD (gc X) O3 (upd H3 a (.ins C' dx (putF f v fvs))) a (.ins c ys) := ⟨C', dx, _, hc, upd_same, by rw [← ky]; exact h1, ry.keep (Kp.wrote oa)⟩
          exact ⟨a, C', dx, fvs, rfl, ha, cl, na, small, dd.nx _ k3 _ _ _ (((q2.t.trans E p3.t).trans E (p3.env.wrote (nth_ow ee) hv w'))).s⟩
    · exact k3.elim
  · exact k3.elim
end
end PL

namespace PL
open PySem L2

/-- forgetting: a slot of which nothing is known any more -/
def Wk : List Sl → List Sl → Prop
  | [], [] => True
  | s :: r, t :: u => (t = .un ∨ s = t) ∧ Wk r u
  | _, _ => False
theorem Wk.refl : ∀ Γ : List Sl, Wk Γ Γ
  | [] => trivial
  | _ :: r => ⟨.inr rfl, Wk.refl r⟩
theorem Wk.len : ∀ {Γ Γ' : List Sl}, Wk Γ Γ' → Γ'.length = Γ.length
  | [], [], _ => rfl
  | _ :: _, _ :: _, h => by rw [List.length_cons, List.length_cons, Wk.len h.2]
  | [], _ :: _, h => h.elim
  | _ :: _, [], h => h.elim
theorem Wk.at : ∀ {Γ Γ' : List Sl} {i : Nat} {s : Sl}, Wk Γ Γ' → Γ'[i]? = some s → s = .un ∨ Γ[i]? = some s
  | [], [], _, _, _, h => by simp at h
  | x :: _, y :: _, 0, s, h, e => by
    simp at e
    subst e
    rcases h.1 with z | z
    · exact .inl z
    · exact .inr (by simp [z])
  | _ :: r, _ :: u, i + 1, s, h, e => by
    have e' : u[i]? = some s := by simpa using e
    rcases Wk.at h.2 e' with z | z
    · exact .inl z
    · exact .inr (by simpa using z)
  | [], _ :: _, _, _, h, _ => h.elim
  | _ :: _, [], _, _, h, _ => h.elim
/-- I holds of what is known, perhaps of less -/
def Up (I : List Sl → Prop) (Γ : List Sl) : Prop := ∃ Γ0, Wk Γ Γ0 ∧ I Γ0
section
variable {G : Gc} {O O' O1 O2 : Addr → Prop} {H H' H1 H2 : Hp} {σ σ' σ1 σ2 : St} {Γ Γ' Γ1 Γ2 : List Sl} {a : Addr} {v : V} {r : Rv} {B : Nat → Prop}
theorem SS.wk (w : Wk Γ Γ') {b : Addr} (h : SS σ Γ' b) : SS σ Γ b := by
  obtain ⟨i, d, e1, e2⟩ := h
  rcases w.at e1 with z | z
  · cases z
  · exact ⟨i, d, z, e2⟩
theorem EnvR.wk (E : EnvR G O H σ Γ) (w : Wk Γ Γ') : EnvR G O H σ Γ' := by
  refine ⟨by rw [w.len]; exact E.len, fun i s e => ?_, fun i j a d e e1 e2 e3 e4 => ?_, E.trk⟩
  · rcases w.at e with z | z
    · subst z; trivial
    · exact E.sl i s z
  · have f1 := (w.at e1).resolve_left (fun z => by cases z)
    have f2 := (w.at e2).resolve_left (fun z => by cases z)
    exact E.uni i j a d e f1 f2 e3 e4
theorem SPost.wk (p : SPost G B O H σ Γ O' H' σ' Γ1) (w : Wk Γ1 Γ2) : SPost G B O H σ Γ O' H' σ' Γ2 :=
  ⟨⟨p.frm.at_, p.frm.new, p.frm.old, fun b z => p.frm.own b (z.wk w), p.frm.trk⟩, p.env.wk w, p.ref, p.len⟩
theorem TPost.wk (p : TPost G O H σ Γ O' H' Γ1) (w : Wk Γ1 Γ2) : TPost G O H σ Γ O' H' Γ2 :=
  ⟨⟨p.frm.at_, p.frm.new, p.frm.old, fun b z => p.frm.own b (z.wk w), p.frm.trk⟩, p.env.wk w⟩
end

/-- in any later heap the iterator yields the items of xs, in turn -/
def JW (G : Gc) (J : It) (xs : List D) (O : Addr → Prop) (H : Hp) : Prop := ∀ (O' : Addr → Prop) (H' : Hp), Kp O H O' H' →
  (∀ i x, xs[i]? = some x → J.go i H' ∧ ∀ v H'', J.yld i H' v H'' → (H'' = H' ∧ Rep G O' H'' v x) ∨ ∃ T vs ds, H' T = none ∧ H'' = upd H' T (.tup vs) ∧ v = .ref T ∧ x = .tup ds ∧ Reps G O' H' vs ds) ∧ J.stop xs.length H'
abbrev PIt := List Sl → (List D → List Sl → Prop) → Prop
def liftI (G : Gc) (t : PIt) : TI := fun σ H R => ∃ O Γ Q0, EnvR G O H σ Γ ∧ t Γ Q0 ∧ ∀ xs Γ', Q0 xs Γ' → ∀ J H' O', TPost G O H σ Γ O' H' Γ' → JW G J xs O' H' → R J H'
def QI (X : Cx) (tg iter : Expr) (t : PIt) : Prop := PI X tg iter (liftI (gc X) t)
theorem PI.weak {X : Cx} {tg e : Expr} {t t' : TI} (h : PI X tg e t) (k : ∀ σ H Q, t' σ H Q → t σ H Q) : PI X tg e t' := ⟨fun pins s σ H Q I q => h.run pins s σ H Q I (k _ _ _ q)⟩
section
variable {G : Gc} {O O' O1 O2 : Addr → Prop} {H H' H1 H2 : Hp} {σ : St} {Γ : List Sl} {a : Addr}
theorem Kp.trans (t : ∀ b, H1 b = none → H b = none) (k : Kp O H O1 H1) (l : Kp O1 H1 O2 H2) : Kp O H O2 H2 :=
  ⟨fun b o e n => l.at_ b o (k.at_ b o e n) (k.out (by rw [e]; intro z; cases z) n), fun b h => (l.new b h).elim (k.new b) fun z => .inr (t b z)⟩
theorem jw_list {vs : List V} {xs : List D} (ho : ¬ O a) (ha : H a = some (.lst vs)) (r : Reps G O H vs xs) : JW G (Itl G.K a) xs O H := fun O' H' k => by
  have hl := k.at_ _ _ ha ho
  refine ⟨fun i x e => ?_, ⟨vs, .of hl, by rw [r.length]; exact Nat.le_refl _⟩⟩
  obtain ⟨v, ev, rv⟩ := r.get e
  refine ⟨⟨vs, v, .of hl, ev⟩, fun u H'' y => .inl ?_⟩
  obtain ⟨e1, y⟩ := y
  have : u = v := Option.some.inj ((y vs (.of hl)).symm.trans ev)
  subst this
  exact ⟨e1, by rw [e1]; exact rv.keep k⟩
theorem jw_tup {vs : List V} {xs : List D} (ha : TupAt G O H a vs) (r : Reps G O H vs xs) : JW G (Itt G.K a) xs O H := fun O' H' k => by
  have hl := (ha.keep k).sq
  refine ⟨fun i x e => ?_, ⟨vs, hl, by rw [r.length]; exact Nat.le_refl _⟩⟩
  obtain ⟨v, ev, rv⟩ := r.get e
  refine ⟨⟨vs, v, hl, ev⟩, fun u H'' y => .inl ?_⟩
  obtain ⟨e1, y⟩ := y
  have : u = v := Option.some.inj ((y vs hl).symm.trans ev)
  subst this
  exact ⟨e1, by rw [e1]; exact rv.keep k⟩
theorem getE_ints {lo : Int} {n i : Nat} {x : D} (e : ((List.range n).map fun k : Nat => D.int (lo + k))[i]? = some x) : i < n ∧ x = .int (lo + i) := by
  rw [List.getElem?_map] at e
  by_cases h : i < n
  · rw [List.getElem?_range h] at e
    cases e
    exact ⟨h, rfl⟩
  · rw [List.getElem?_eq_none (by simpa using h)] at e; cases e
theorem jw_range {lo : Int} {n : Nat} : JW G (Itr lo n) ((List.range n).map fun k : Nat => D.int (lo + k)) O H := fun O' H' k => by
  refine ⟨fun i x e => ?_, by show n ≤ _; simp⟩
  obtain ⟨h, rfl⟩ := getE_ints e
  refine ⟨h, fun u H'' y => .inl ?_⟩
  obtain ⟨e1, e2⟩ := y
  subst e1 e2
  exact ⟨rfl, .int _⟩
end
/-- a list or a tuple, whichever -/
def iSeq (K : PySem.W.Frag) (tl : TE) : TI := fun σ H R => tl σ H fun x H1 => ∃ a, x = .ref a ∧ (((∃ xs, SqL K H1 a xs) ∧ R (Itl K a) H1) ∨ ((∃ xs, SqT K H1 a xs) ∧ R (Itt K a) H1))
section
variable {X : Cx} {tg l a b e : Expr} {ta tb : PEt} {t : PAt} {p pos : Pos}
theorem pi_seq {tl : TE} (hl : PE X l tl) : PI X tg l (iSeq X.K tl) := by
  refine ⟨fun pins s σ H R I h => ?_⟩
  refine thn (hl.run pins s σ H _ I h) fun v s1 ⟨x, H1, I1, r1, q1⟩ => ?_
  obtain ⟨a, e, q⟩ := q1
  subst e
  cases r1
  rcases q with ⟨⟨xs, hq⟩, q⟩ | ⟨⟨xs, hq⟩, q⟩
  · obtain ⟨its, rv, p, hz⟩ := I1.list hq
    refine wpAny_pyIter_list p.isList ?_
    refine ⟨s1.heap.objs.size, [s1.heap.objs.size], _, _, H1, rfl, I1.kept (t' := s1.toks) fun b o e => Heap.get?_push_of_some _ e, turn_list a _, ⟨_, Heap.get?_push_size _ rfl, rfl, rfl⟩, fun b hb => ?_, q⟩
    have e : b = s1.heap.objs.size := by simpa using hb
    subst e
    exact I1.fpOk (Nat.le_refl _) (I1.hok.fresh (Nat.le_refl _))
  · obtain ⟨its, rv, p, hz⟩ := I1.tuple hq
    refine wpAny_pyIter_tuple (show s1.heap.IsTuple a its.toArray from p) ?_
    refine ⟨s1.heap.objs.size, [s1.heap.objs.size], _, _, H1, rfl, I1.kept (t' := s1.toks) fun b o e => Heap.get?_push_of_some _ e, turn_tuple a _, ⟨_, Heap.get?_push_size _ rfl, rfl, rfl⟩, fun b hb => ?_, q⟩
    have e : b = s1.heap.objs.size := by simpa using hb
    subst e
    exact I1.fpOk (Nat.le_refl _) (I1.hok.fresh (Nat.le_refl _))
def pSeqI (te : PEt) : PIt := fun Γ Q => te Γ fun r Γ1 => fz Γ1 r fun d Γ2 => match d with
  | .lst xs => Q xs Γ2
  | .tup xs => Q xs Γ2
  | _ => False
theorem qi_seq (he : QE X l ta) : QI X tg l (pSeqI ta) := PI.weak (pi_seq he) fun σ H R ⟨O, Γ, Q0, E, ht, hq⟩ => by
  refine ⟨O, Γ, _, E, ht, fun r Γ1 k v H1 O1 p => ?_⟩
  obtain ⟨d, Γ2, O2, k2, q⟩ := p.fz E k
  have hr : Rep (gc X) O2 H1 v d := q.held
  split at k2
  · cases hr with
    | lst ho ha r => exact ⟨_, rfl, .inl ⟨⟨_, .of ha⟩, hq _ _ k2 _ _ _ q.t (jw_list ho ha r)⟩⟩
  · cases hr with
    | tup ha r => exact ⟨_, rfl, .inr ⟨⟨_, ha.sq⟩, hq _ _ k2 _ _ _ q.t (jw_tup ha r)⟩⟩
  · exact k2.elim
def rangeD (lo : Int) (n : Nat) : List D := (List.range n).map fun k : Nat => D.int (lo + k)
def pRng1 (ta : PAt) : PIt := fun Γ Q => ta Γ fun rs Γ1 => wdA Γ1 rs fun ds => match ds with
  | [.int j] => (-(2 ^ 62) ≤ j ∧ j < 2 ^ 62) ∧ Q (rangeD 0 j.toNat) Γ1
  | _ => False
def pRng2 (ta : PAt) : PIt := fun Γ Q => ta Γ fun rs Γ1 => wdA Γ1 rs fun ds => match ds with
  | [.int i, .int j] => (-(2 ^ 62) ≤ i ∧ i < 2 ^ 62 ∧ -(2 ^ 62) ≤ j ∧ j < 2 ^ 62) ∧ Q (rangeD i (j - i).toNat) Γ1
  | _ => False
theorem qi_range1 (hg : Gl X "range") (hm : X.mg "range" = none) (ha : QA' X [a] t) (hs : starEach [a] X.env = [(false, eval a X.env)] := by rfl) : QI X tg (.Call (.Name "range" p) [a] [] pos) (pRng1 t) :=
  PI.weak (pi_range1 hg hm ha hs) fun σ H R ⟨O, Γ, Q0, E, ht, hq⟩ => by
    refine ⟨O, Γ, _, E, ht, fun rs Γ1 k nf vs H1 O1 p => ?_⟩
    obtain ⟨ds, kd, ww⟩ := wdA_ok p.env p.helds k
    split at kd
    · obtain ⟨v, rfl, w⟩ := ww.one
      rw [w.int]
      exact ⟨_, rfl, kd.1.1, kd.1.2, hq _ _ kd.2 _ _ _ p.t jw_range⟩
    · exact kd.elim
theorem qi_range2 (hg : Gl X "range") (hm : X.mg "range" = none) (ha : QA' X [a, b] t) (hs : starEach [a, b] X.env = [(false, eval a X.env), (false, eval b X.env)] := by rfl) (hs2 : starEach [b] X.env = [(false, eval b X.env)] := by rfl) : QI X tg (.Call (.Name "range" p) [a, b] [] pos) (pRng2 t) :=
  PI.weak (pi_range2 hg hm ha hs hs2) fun σ H R ⟨O, Γ, Q0, E, ht, hq⟩ => by
    refine ⟨O, Γ, _, E, ht, fun rs Γ1 k nf vs H1 O1 p => ?_⟩
    obtain ⟨ds, kd, ww⟩ := wdA_ok p.env p.helds k
    split at kd
    · obtain ⟨v, u, rfl, w1, w2⟩ := ww.two
      rw [w1.int, w2.int]
      exact ⟨_, _, rfl, kd.1, hq _ _ kd.2 _ _ _ p.t jw_range⟩
    · exact kd.elim
end

structure ForK (xs : List D) (Γ1 : List Sl) (g : PGt) (tb : PSt) (P : PEnds) : Prop where
  ex : ∃ I : Nat → List Sl → Prop, Up (I 0) Γ1 ∧
    (∀ i x Γ, xs[i]? = some x → I i Γ → g x Γ fun Γ2 => tb { P with nx := Up (I (i + 1)), ct := Up (I (i + 1)), bk := P.nx } Γ2) ∧ ∀ Γ, I xs.length Γ → P.nx Γ
def pFor (ti : PIt) (g : PGt) (tb : PSt) : PSt := fun P Γ => ti Γ fun xs Γ1 => ForK xs Γ1 g tb P
section
variable {X : Cx} {B : Nat → Prop} {pos : Pos} {tg iter c : Expr} {body : List Stmt} {ti : PIt} {g : PGt} {tb : PSt} {tc : PTt}
theorem Frm.kpS {G : Gc} {O O' : Addr → Prop} {H H' : Hp} {σ : St} {Γ : List Sl} {S' : Addr → Prop} (E : EnvR G O H σ Γ) (f : Frm O H (SS σ Γ) O' H' S') : Kp O H O' H' := f.kpE E
theorem qs_for (hp : PassesOwn (model X.prog X.w) X.A X.env X.xe) (hc : X.calm = true) (hi : QI X tg iter ti) (hg : QG X B tg g) (hb : QSs X B body tb)
    (hs : ∀ x, foldedSetIterable iter X.env x = pure x := by intro _; rfl) : QS X B (.For tg iter body [] pos) (pFor ti g tb) := PS.weak (ps_for hp hc hi hg hb hs) fun D σ H ⟨O, Γ, P, E, ht, dd⟩ => by
  refine ⟨O, Γ, _, E, ht, fun xs Γ1 k J H1 O1 p1 jw => ?_⟩
  obtain ⟨I, h0, hstep, hend⟩ := k
  refine ⟨fun i m σ' H' => m = xs.length - i ∧ i ≤ xs.length ∧ ∃ O' Γ', SPost (gc X) B O1 H1 σ Γ1 O' H' σ' Γ' ∧ I i Γ', ⟨_, rfl, Nat.zero_le _, ?_⟩, ?_⟩
  · obtain ⟨Γ0, w, i0⟩ := h0
    exact ⟨O1, Γ0, (SPost.refl p1.env).wk w, i0⟩
  · rintro i m σ' H' ⟨rfl, hi, O', Γ', p, hI⟩
    have kp : Kp O1 H1 O' H' := p.frm.kpE p1.env
    obtain ⟨jgo, jstop⟩ := jw O' H' kp
    by_cases hlt : i < xs.length
    · obtain ⟨go, yld⟩ := jgo i xs[i] (by simp [hlt])
      refine .inr ⟨go, fun σ2 H2 => ∃ O2 Γ2, SPost (gc X) B O1 H1 σ Γ1 O2 H2 σ2 Γ2 ∧ I (i + 1) Γ2, fun σ2 H2 ⟨O2, Γ2, p2, i2⟩ => ⟨xs.length - (i + 1), by omega, rfl, hlt, O2, Γ2, p2, i2⟩, fun x H2 y => ?_⟩
      have key : ∃ q : SPost (gc X) B O1 H1 σ Γ1 O' H2 σ' Γ', Rep (gc X) O' H2 x xs[i] := by
        rcases yld x H2 y with ⟨e, r⟩ | ⟨T, vs, ds, hT, e, ev, ex, rr⟩
        · subst e; exact ⟨p, r⟩
        · subst e
          refine ⟨p.trans p1.env ⟨.laid hT, p.env.laid hT, fun _ _ => rfl, rfl⟩, ?_⟩
          rw [ev, ex]
          exact .tup (.inl ⟨.inl upd_same, fun z => p.env.trk T z hT⟩) (rr.keep (Kp.laid hT))
      obtain ⟨q, r⟩ := key
      refine ⟨O', Γ', _, _, q.env, r, hstep i _ Γ' (by simp [hlt]) hI, fun Γ3 k3 σ3 H3 O3 p3 => ⟨O3, Γ3, _, p3.env, k3, ?_⟩⟩
      have q3 := q.trans p1.env p3
      have cont : ∀ Γ4, Up (I (i + 1)) Γ4 → ∀ σ4 H4 O4, SPost (gc X) B O3 H3 σ3 Γ3 O4 H4 σ4 Γ4 → ∃ O2 Γ2, SPost (gc X) B O1 H1 σ Γ1 O2 H4 σ4 Γ2 ∧ I (i + 1) Γ2 := fun Γ4 ⟨Γ0, w, i0⟩ σ4 H4 O4 p4 => ⟨O4, Γ0, (q3.trans p1.env p4).wk w, i0⟩
      have start : ∀ {O4 H4 σ4 Γ4}, SPost (gc X) B O3 H3 σ3 Γ3 O4 H4 σ4 Γ4 → SPost (gc X) B O H σ Γ O4 H4 σ4 Γ4 := fun p4 => p1.s.trans E (q3.trans p1.env p4)
      exact ⟨cont, fun r Γ4 k4 v σ4 H4 O4 p4 => dd.rt r Γ4 k4 v σ4 H4 O4 (.after E (p1.s.trans E q3) p4), fun Γ4 k4 σ4 H4 O4 p4 => dd.nx Γ4 k4 σ4 H4 O4 (start p4), cont⟩
    · have e : i = xs.length := by omega
      subst e
      exact .inl ⟨jstop, dd.nx _ (hend _ hI) _ _ _ (p1.s.trans E p)⟩
/-- W: what holds at each turn's start, with a measure -/
structure WhK (c : PTt) (tb : PSt) (P : PEnds) (Γ : List Sl) : Prop where
  ex : ∃ W : Nat → List Sl → Prop, (∃ m, Up (W m) Γ) ∧ ∀ m Γ, W m Γ → c Γ fun b Γ1 =>
    (b = true → tb { P with nx := fun Γ2 => ∃ m', m' < m ∧ Up (W m') Γ2, ct := fun Γ2 => ∃ m', m' < m ∧ Up (W m') Γ2, bk := P.nx } Γ1) ∧ (b = false → P.nx Γ1)
def pWhile (c : PTt) (tb : PSt) : PSt := fun P Γ => WhK c tb P Γ
theorem qs_while (hp : PassesOwn (model X.prog X.w) X.A X.env X.xe) (hc : QT X c tc) (hb : QSs X B body tb) : QS X B (.While c body [] pos) (pWhile tc tb) := PS.weak (ps_while hp hc hb) fun D σ H ⟨O, Γ, P, E, ht, dd⟩ => by
  obtain ⟨W, ⟨m0, h0⟩, turn⟩ := ht
  refine ⟨fun m σ' H' => ∃ O' Γ', SPost (gc X) B O H σ Γ O' H' σ' Γ' ∧ W m Γ', ⟨m0, ?_⟩, ?_⟩
  · obtain ⟨Γ0, w, i0⟩ := h0
    exact ⟨O, Γ0, (SPost.refl E).wk w, i0⟩
  · rintro m σ' H' ⟨O', Γ', p, w⟩
    refine ⟨O', Γ', _, p.env, turn m Γ' w, fun b Γ1 k H1 O1 p1 => ?_⟩
    have q1 := p.trans E p1.s
    cases b with
    | true =>
      refine ⟨fun σ2 H2 => ∃ m', m' < m ∧ ∃ O2 Γ2, SPost (gc X) B O H σ Γ O2 H2 σ2 Γ2 ∧ W m' Γ2, fun σ2 H2 h => h, O1, Γ1, _, p1.env, k.1 rfl, ?_⟩
      have cont : ∀ Γ4, (∃ m', m' < m ∧ Up (W m') Γ4) → ∀ σ4 H4 O4, SPost (gc X) B O1 H1 σ' Γ1 O4 H4 σ4 Γ4 → ∃ m', m' < m ∧ ∃ O2 Γ2, SPost (gc X) B O H σ Γ O2 H4 σ4 Γ2 ∧ W m' Γ2 := fun Γ4 ⟨m', hm, Γ0, w, i0⟩ σ4 H4 O4 p4 => ⟨m', hm, O4, Γ0, (q1.trans E p4).wk w, i0⟩
      exact ⟨cont, fun r Γ4 k4 v σ4 H4 O4 p4 => dd.rt r Γ4 k4 v σ4 H4 O4 (.after E q1 p4), fun Γ4 k4 σ4 H4 O4 p4 => dd.nx Γ4 k4 σ4 H4 O4 (q1.trans E p4), cont⟩
    | false => exact dd.nx _ (k.2 rfl) _ _ _ q1
end
end PL

namespace PL
open PySem L2

def wipeP (Γ : List Sl) : List Nat → List Sl
  | [] => Γ
  | v :: vs => put (wipeP Γ vs) v .un
/-- Γ with the slots vs as they are in Γ1 -/
def back (Γ1 : List Sl) (Γ : List Sl) : List Nat → List Sl
  | [] => Γ
  | v :: vs => put (back Γ1 Γ vs) v (nth Γ1 v)
section
variable {G : Gc} {O O' O1 O2 : Addr → Prop} {H H' H1 H2 : Hp} {σ σ' σ1 σ2 : St} {Γ Γ' Γ1 Γ2 : List Sl} {a : Addr} {v : V} {r : Rv} {B : Nat → Prop}
theorem wipeP_len (Γ : List Sl) : ∀ vs : List Nat, (wipeP Γ vs).length = Γ.length
  | [] => rfl
  | v :: vs => by rw [wipeP, put_eq, List.length_set, wipeP_len Γ vs]
theorem wipeP_at {vs : List Nat} {i : Nat} {s : Sl} (h : (wipeP Γ vs)[i]? = some s) : s = .un ∨ (Γ[i]? = some s ∧ i ∉ vs) := by
  induction vs with
  | nil => exact .inr ⟨h, by simp⟩
  | cons v vs ih =>
    rw [wipeP, put_eq] at h
    by_cases hv : v = i
    · subst hv
      by_cases hl : v < (wipeP Γ vs).length
      · rw [List.getElem?_set_self hl] at h; cases h; exact .inl rfl
      · rw [List.getElem?_eq_none (by simpa using hl)] at h; cases h
    · rw [List.getElem?_set_ne hv] at h
      rcases ih h with z | ⟨z, n⟩
      · exact .inl z
      · exact .inr ⟨z, by simp only [List.mem_cons, not_or]; exact ⟨fun e => hv e.symm, n⟩⟩
theorem SS.wipe {vs : List Nat} {b : Addr} (h : SS (wipe σ vs) (wipeP Γ vs) b) : SS σ Γ b ∧ ∃ i d, i ∉ vs ∧ Γ[i]? = some (.ow d) ∧ σ[i]? = some (some (.ref b)) := by
  obtain ⟨i, d, e1, e2⟩ := h
  rcases wipeP_at e1 with z | ⟨z, n⟩
  · cases z
  · have e3 := (wipe_some e2).1
    exact ⟨⟨i, d, z, e3⟩, i, d, n, z, e3⟩
theorem EnvR.wipe (E : EnvR G O H σ Γ) (vs : List Nat) : EnvR G O H (wipe σ vs) (wipeP Γ vs) := by
  refine ⟨by rw [wipe_length, wipeP_len]; exact E.len, fun i s e => ?_, fun i j a d e e1 e2 e3 e4 => ?_, E.trk⟩
  · rcases wipeP_at e with z | ⟨z, n⟩
    · subst z; trivial
    · rw [L2.wipe_out n]; exact E.sl i s z
  · rcases wipeP_at e1 with z | ⟨z1, _⟩
    · cases z
    · rcases wipeP_at e2 with z | ⟨z2, _⟩
      · cases z
      · exact E.uni i j a d e z1 z2 (wipe_some e3).1 (wipe_some e4).1
theorem back_at {vs : List Nat} {i : Nat} {s : Sl} (h : (back Γ1 Γ vs)[i]? = some s) : (i ∈ vs ∧ s = nth Γ1 i) ∨ (i ∉ vs ∧ Γ[i]? = some s) := by
  induction vs with
  | nil => exact .inr ⟨by simp, h⟩
  | cons v vs ih =>
    rw [back, put_eq] at h
    by_cases hv : v = i
    · subst hv
      by_cases hl : v < (back Γ1 Γ vs).length
      · rw [List.getElem?_set_self hl] at h; cases h; exact .inl ⟨List.mem_cons_self, rfl⟩
      · rw [List.getElem?_eq_none (by simpa using hl)] at h; cases h
    · rw [List.getElem?_set_ne hv] at h
      rcases ih h with ⟨m, z⟩ | ⟨m, z⟩
      · exact .inl ⟨List.mem_cons_of_mem _ m, z⟩
      · exact .inr ⟨by simp only [List.mem_cons, not_or]; exact ⟨fun e => hv e.symm, m⟩, z⟩
theorem back_len (Γ1 Γ : List Sl) : ∀ vs : List Nat, (back Γ1 Γ vs).length = Γ.length
  | [] => rfl
  | v :: vs => by rw [back, put_eq, List.length_set, back_len Γ1 Γ vs]
/-- behind a comprehension's block -/
theorem EnvR.back {vs : List Nat} (E1 : EnvR G O1 H1 σ Γ1) (f : Frm O1 H1 (SS (L2.wipe σ vs) (wipeP Γ1 vs)) O H (SS (L2.wipe σ vs) Γ)) (E : EnvR G O H (L2.wipe σ vs) Γ) : TPost G O1 H1 σ Γ1 O H (PL.back Γ1 Γ vs) := by
  have kp : Kp O1 H1 O H := f.kp fun b z => E1.sub z.wipe.1
  have notS : ∀ {i : Nat} {d : D} {a : Addr}, i ∈ vs → Γ1[i]? = some (.ow d) → σ[i]? = some (some (.ref a)) → ¬ SS (L2.wipe σ vs) (wipeP Γ1 vs) a := fun {i d a} hi e1 e2 z => by
    obtain ⟨_, j, d', n, e3, e4⟩ := z.wipe
    exact n (by rw [← E1.uni i j a d d' e1 e3 e2 e4]; exact hi)
  have inS : ∀ {i : Nat} {d : D} {a : Addr}, i ∉ vs → Γ[i]? = some (.ow d) → σ[i]? = some (some (.ref a)) → SS (L2.wipe σ vs) Γ a := fun {i d a} hi e1 e2 => ⟨i, d, e1, by rw [L2.wipe_out hi]; exact e2⟩
  have own : ∀ {i : Nat} {d : D}, i ∈ vs → Sl.ow d = nth Γ1 i → Γ1[i]? = some (.ow d) := fun {i d} hi e => nth_ow e.symm
  refine ⟨⟨fun b o e n => f.at_ b o e fun z => n z.wipe.1, f.new, fun b h n => f.old b h fun z => n z.wipe.1, fun b ⟨i, d, e1, e2⟩ => ?_, f.trk⟩, by rw [back_len, ← E.len, wipe_length], fun i s e => ?_, fun i j a d e e1 e2 e3 e4 => ?_, E.trk⟩
  · rcases back_at e1 with ⟨hi, z⟩ | ⟨hi, z⟩
    · exact .inl ⟨i, d, own hi z, e2⟩
    · exact (f.own b (inS hi z e2)).elim (fun y => .inl y.wipe.1) .inr
  · rcases back_at e with ⟨hi, z⟩ | ⟨hi, z⟩
    · cases s with
      | un => trivial
      | sh d =>
        obtain ⟨v, ev, rv⟩ := E1.sl i _ (nth_sh z.symm)
        exact ⟨v, ev, rv.keep kp⟩
      | ow d =>
        have e1 := own hi z
        obtain ⟨a, ea, oa, w⟩ := E1.sl i _ e1
        have nS := notS hi e1 ea
        refine ⟨a, ea, f.old a oa nS, w.keep kp ?_⟩
        cases q : H1 a with
        | none => exact absurd q w.some
        | some u => exact f.at_ a u q nS
    · rw [← L2.wipe_out hi]; exact E.sl i s z
  · have cross : ∀ {i j : Nat} {a : Addr} {d e : D}, i ∈ vs → Sl.ow d = nth Γ1 i → j ∉ vs → Γ[j]? = some (.ow e) → σ[i]? = some (some (.ref a)) → σ[j]? = some (some (.ref a)) → False := fun {i j a d e} hi z1 hj z2 e3 e4 => by
      have e1 := own hi z1
      obtain ⟨a', ea, oa, w⟩ := E1.sl i _ e1
      rw [e3] at ea
      cases ea
      exact (f.own a (inS hj z2 e4)).elim (notS hi e1 e3) (E1.trk a oa)
    rcases back_at e1 with ⟨hi, z1⟩ | ⟨hi, z1⟩ <;> rcases back_at e2 with ⟨hj, z2⟩ | ⟨hj, z2⟩
    · exact E1.uni i j a d e (own hi z1) (own hj z2) e3 e4
    · exact (cross hi z1 hj z2 e3 e4).elim
    · exact (cross hj z2 hi z1 e4 e3).elim
    · exact E.uni i j a d e z1 z2 (by rw [L2.wipe_out hi]; exact e3) (by rw [L2.wipe_out hj]; exact e4)
end

/-- [elt for target in iter if ..]; I: by the turn, what is made so far, the slots (those of the block's own names forgotten) -/
structure LcK (xs : List D) (Γ1 : List Sl) (g : PGt) (tt : PTt) (te : PEt) (vs : List Nat) (Q : Rv → List Sl → Prop) : Prop where
  ex : ∃ I : Nat → List D → List Sl → Prop, I 0 [] (wipeP Γ1 vs) ∧
    (∀ i x acc Γ, xs[i]? = some x → I i acc Γ → g x Γ fun Γ2 => tt Γ2 fun b Γ3 => (b = true → te Γ3 fun r Γ4 => fz Γ4 r fun d Γ5 => acc.length < sizeLine ∧ I (i + 1) (acc ++ [d]) (wipeP Γ5 vs)) ∧ (b = false → I (i + 1) acc (wipeP Γ3 vs))) ∧
    ∀ acc Γ, I xs.length acc Γ → Q (.fr (.lst acc)) (back Γ1 Γ vs)
def pLc (ti : PIt) (g : PGt) (tt : PTt) (te : PEt) (vs : List Nat) : PEt := fun Γ Q => ti Γ fun xs Γ1 => LcK xs Γ1 g tt te vs Q
def pYes : PTt := fun Γ Q => Q true Γ
def QTs (X : Cx) (ifs : List Expr) (t : PTt) : Prop := PTs X ifs (liftT (gc X) t)
theorem PTs.weak {X : Cx} {e : List Expr} {t t' : TT} (h : PTs X e t) (k : ∀ σ H Q, t' σ H Q → t σ H Q) : PTs X e t' := ⟨fun pins s σ H Q I q => h.run pins s σ H Q I (k _ _ _ q)⟩
theorem qts_nil {X : Cx} : QTs X [] pYes := PTs.weak pts_nil fun σ H Q ⟨O, Γ, Q0, E, ht, hq⟩ => hq _ _ ht H O (.refl E)
theorem qts_one {X : Cx} {c : Expr} {t : PTt} (h : QT X c t) : QTs X [c] t := pts_one h
section
variable {G : Gc} {O O' O1 O2 : Addr → Prop} {H H' H1 H2 : Hp} {σ σ' σ1 σ2 : St} {Γ Γ' Γ1 Γ2 : List Sl} {a : Addr} {v : V} {r : Rv} {B : Nat → Prop}
theorem wipe_get {vs : List Nat} {i : Nat} : (L2.wipe σ vs)[i]? = if i ∈ vs then (if i < σ.length then some none else none) else σ[i]? := by
  induction vs with
  | nil => simp [L2.wipe]
  | cons v vs ih =>
    rw [L2.wipe, List.getElem?_set, ih, wipe_length]
    by_cases hv : v = i
    · subst hv; simp
    · have : i ≠ v := fun z => hv z.symm
      simp [hv, this]
/-- the block's target stores into its own names alone -/
theorem wipe_same {vs : List Nat} (h : ∀ i, i ∉ vs → σ'[i]? = (L2.wipe σ vs)[i]?) (hl : σ'.length = σ.length) : L2.wipe σ' vs = L2.wipe σ vs := by
  refine List.ext_getElem? fun i => ?_
  rw [wipe_get, wipe_get, hl]
  by_cases hi : i ∈ vs
  · rw [if_pos hi, if_pos hi]
  · rw [if_neg hi, if_neg hi, h i hi, L2.wipe_out hi]
theorem EnvR.unW (E : EnvR G O H σ' Γ) {vs : List Nat} (e : L2.wipe σ' vs = L2.wipe σ vs) : EnvR G O H (L2.wipe σ vs) (wipeP Γ vs) := by rw [← e]; exact E.wipe vs
theorem Frm.unW {S : Addr → Prop} {vs : List Nat} (f : Frm O H S O' H' (SS σ' Γ')) (e : L2.wipe σ' vs = L2.wipe σ vs) : Frm O H S O' H' (SS (L2.wipe σ vs) (wipeP Γ' vs)) :=
  ⟨f.at_, f.new, f.old, fun b z => f.own b (by rw [← e] at z; exact z.wipe.1), f.trk⟩
/-- a block's state: the new list at D holds acc -/
structure LcS (G : Gc) (D : Addr) (O1 : Addr → Prop) (H1 : Hp) (S1 : Addr → Prop) (σ : St) (O : Addr → Prop) (H : Hp) (Γ : List Sl) (acc : List V) (dacc : List PL.D) : Prop where
  frm : Frm O1 H1 S1 O H (SS σ Γ)
  env : EnvR G O H σ Γ
  o : O D
  h : H D = some (.lst acc)
  r : Reps G O H acc dacc
  n : ¬ SS σ Γ D
section
variable {D : Addr} {S1 : Addr → Prop} {acc : List V} {dacc : List PL.D}
theorem LcS.step (t : ∀ b, O1 b → H1 b ≠ none) (s : LcS G D O1 H1 S1 σ O H Γ acc dacc) (f : Frm O H (SS σ Γ) O' H' (SS σ' Γ')) (E : EnvR G O' H' σ' Γ') : LcS G D O1 H1 S1 σ' O' H' Γ' acc dacc :=
  ⟨s.frm.trans t f, E, f.old D s.o s.n, f.at_ D _ s.h s.n, s.r.frm s.env f, fun z => (f.own D z).elim s.n fun y => by rw [s.h] at y; cases y⟩
theorem LcS.unW {vs : List Nat} (s : LcS G D O1 H1 S1 σ' O H Γ acc dacc) (e : L2.wipe σ' vs = L2.wipe σ vs) : LcS G D O1 H1 S1 (L2.wipe σ vs) O H (wipeP Γ vs) acc dacc :=
  ⟨s.frm.unW e, s.env.unW e, s.o, s.h, s.r, fun z => s.n (by rw [← e] at z; exact z.wipe.1)⟩
theorem LcS.app (hD : H1 D = none) (s : LcS G D O1 H1 S1 σ O H Γ acc dacc) {y : V} {d : PL.D} (r : Rep G O H y d) : LcS G D O1 H1 S1 σ O (upd H D (.lst (acc ++ [y]))) Γ (acc ++ [y]) (dacc ++ [d]) := by
  have k : Kp O H O (upd H D (.lst (acc ++ [y]))) := Kp.wrote s.o
  refine ⟨⟨fun b o e n => ?_, s.frm.new, s.frm.old, s.frm.own, fun b h => ?_⟩, s.env.keep k (fun b hb => ⟨s.env.sub hb, upd_ne fun z => s.n (by rw [← z]; exact hb)⟩) fun b hb z => ?_, s.o, upd_same, (s.r.app (.cons r .nil)).keep k, s.n⟩
  · rw [upd_ne (ne_of_none e hD)]; exact s.frm.at_ b o e n
  · by_cases hb : b = D
    · rw [hb]; exact hD
    · rw [upd_ne hb] at h; exact s.frm.trk b h
  · by_cases hbD : b = D
    · rw [hbD, upd_same] at z; cases z
    · rw [upd_ne hbD] at z; exact s.env.trk b hb z
end
theorem lift_lc {ti : PIt} {g : PGt} {tt : PTt} {te : PEt} {vs : List Nat} : ∀ σ H Q, lift G (pLc ti g tt te vs) σ H Q → tLc (liftI G ti) (liftG G (fun i => i ∉ vs) g) (liftT G tt) (lift G te) vs σ H Q := by
  intro σ H Q ⟨O, Γ, Q0, E, ht, hq⟩
  refine ⟨O, Γ, _, E, ht, fun xs Γ1 k J H1 O1 p1 jw D hD => ?_⟩
  obtain ⟨I, h0, hstep, hend⟩ := k
  have Ew := p1.env.wipe vs
  refine ⟨fun i m H' => m = xs.length - i ∧ i ≤ xs.length ∧ ∃ O' Γ' acc dacc, LcS G D O1 H1 (SS (L2.wipe σ vs) (wipeP Γ1 vs)) (L2.wipe σ vs) O' H' Γ' acc dacc ∧ I i dacc Γ',
    ⟨_, rfl, Nat.zero_le _, fun b => O1 b ∨ b = D, wipeP Γ1 vs, [], [], ⟨.laidO hD, Ew.laidO hD, .inr rfl, upd_same, .nil, fun z => SS.at Ew z hD⟩, h0⟩, ?_⟩
  rintro i m H' ⟨rfl, hi, O', Γ', acc, dacc, s, hI⟩
  have kp : Kp O1 H1 O' H' := s.frm.kpE Ew
  obtain ⟨jgo, jstop⟩ := jw O' H' kp
  by_cases hlt : i < xs.length
  · obtain ⟨go, yld⟩ := jgo i xs[i] (by simp [hlt])
    refine .inr ⟨go, fun H2 => ∃ O2 Γ2 acc2 dacc2, LcS G D O1 H1 (SS (L2.wipe σ vs) (wipeP Γ1 vs)) (L2.wipe σ vs) O2 H2 Γ2 acc2 dacc2 ∧ I (i + 1) dacc2 Γ2, fun H2 ⟨O2, Γ2, a2, d2, s2, i2⟩ => ⟨xs.length - (i + 1), by omega, rfl, hlt, O2, Γ2, a2, d2, s2, i2⟩, fun x H2 y => ?_⟩
    have key : ∃ q : LcS G D O1 H1 (SS (L2.wipe σ vs) (wipeP Γ1 vs)) (L2.wipe σ vs) O' H2 Γ' acc dacc, Rep G O' H2 x xs[i] := by
      rcases yld x H2 y with ⟨e, r⟩ | ⟨T, ws, ds, hT, e, ev, ex, rr⟩
      · subst e; exact ⟨s, r⟩
      · subst e
        refine ⟨s.step p1.env.trk (.laid hT) (s.env.laid hT), ?_⟩
        rw [ev, ex]
        exact .tup (.inl ⟨.inl upd_same, fun z => s.env.trk T z hT⟩) (rr.keep (Kp.laid hT))
    obtain ⟨q, r⟩ := key
    refine ⟨O', Γ', _, _, q.env, r, hstep i _ dacc Γ' (by simp [hlt]) hI, fun Γ3 k3 σ3 H3 O3 p3 => ?_⟩
    have ew : L2.wipe σ3 vs = L2.wipe σ vs := wipe_same (fun j hj => p3.ref j hj) (p3.len.trans (wipe_length _ _))
    refine ⟨ew, O3, Γ3, _, p3.env, k3, fun b Γ4 k4 H4 O4 p4 => ?_⟩
    have s4 := (q.step p1.env.trk p3.frm p3.env).step p1.env.trk p4.frm p4.env
    cases b with
    | false =>
      exact iteF ⟨O4, _, acc, dacc, s4.unW ew, k4.2 rfl⟩
    | true =>
      refine iteT ⟨O4, Γ4, _, p4.env, k4.1 rfl, fun r5 Γ5 k5 y5 H5 O5 p5 => ?_⟩
      obtain ⟨d, Γ6, O6, ⟨hz, k6⟩, p6⟩ := p5.fz p4.env k5
      have s6 := s4.step p1.env.trk p6.frm p6.env
      exact ⟨acc, s6.h, by rw [s6.r.length]; exact hz, O6, _, _, _, (s6.unW ew).app hD p6.held, k6⟩
  · have e : i = xs.length := by omega
    subst e
    have tp := p1.env.back s.frm s.env
    refine .inl ⟨jstop, hq _ _ (hend dacc Γ' hI) _ _ _ (.after E p1 ⟨tp.frm, tp.env, ⟨D, rfl, s.o, fun z => ?_, acc, s.h, s.r⟩, fun _ a _ e => by cases e; exact hD⟩)⟩
    obtain ⟨j, d, e1, e2⟩ := z
    rcases back_at e1 with ⟨hj, z⟩ | ⟨hj, z⟩
    · exact SS.at p1.env ⟨j, d, nth_ow z.symm, e2⟩ hD
    · exact s.n ⟨j, d, z, by rw [L2.wipe_out hj]; exact e2⟩
end
section
variable {X : Cx} {pos spos : Pos} {elt tg iter : Expr} {ifs : List Expr} {scope : Scope} {own : List (Str × Nat)} {ti : PIt} {g : PGt} {tt : PTt} {te : PEt}
theorem qe_lc (hc : X.calm = true) (hN : X.N.Nodup) (hi : QI X tg iter ti) (ok : BlkOk X.N X.env.scope scope own)
    (hg : ∀ (s : Shared) (H : Hp) (C : Addr) (cl : List (Str × Addr)) (fp : List Addr), QG (X.blk s H scope (compEnvC scope cl C X.env) fp) (fun i => i ∉ own.map (·.2)) tg g)
    (ht : ∀ (s : Shared) (H : Hp) (C : Addr) (cl : List (Str × Addr)) (fp : List Addr), QTs (X.blk s H scope (compEnvC scope cl C X.env) fp) ifs tt)
    (he : ∀ (s : Shared) (H : Hp) (C : Addr) (cl : List (Str × Addr)) (fp : List Addr), QE (X.blk s H scope (compEnvC scope cl C X.env) fp) elt te) (hs : ∀ x, foldedSetIterable iter X.env x = pure x := by intro _; rfl) :
    QE X (.ListComp elt [⟨tg, iter, ifs, 0⟩] scope pos) (pLc ti g tt te (own.map (·.2))) := PE.weak (pe_lc (g := liftG (gc X) _ g) (tt := liftT (gc X) tt) (te := lift (gc X) te) hc hN hi ok hg ht he hs) lift_lc
theorem qs_setLc {B : Nat → Prop} {i : Nat} {y : Str} {py : Pos} (hc : X.calm = true) (hN : X.N.Nodup) (hy : X.N[i]? = some y) (hyl : X.env.scope.names.lookup y = some .local)
    (hsw : swapsWith (.ListComp elt [⟨tg, iter, ifs, 0⟩] scope pos) (some (.Name y py)) spos.line X.env = pure true) (hi : QI X tg iter ti) (ok : BlkOk X.N X.env.scope scope own)
    (hg : ∀ (s : Shared) (H : Hp) (C : Addr) (cl : List (Str × Addr)) (fp : List Addr), QG (X.blk s H scope (compEnvC scope cl C X.env) fp) (fun i => i ∉ own.map (·.2)) tg g)
    (ht : ∀ (s : Shared) (H : Hp) (C : Addr) (cl : List (Str × Addr)) (fp : List Addr), QTs (X.blk s H scope (compEnvC scope cl C X.env) fp) ifs tt)
    (he : ∀ (s : Shared) (H : Hp) (C : Addr) (cl : List (Str × Addr)) (fp : List Addr), QE (X.blk s H scope (compEnvC scope cl C X.env) fp) elt te) (hB : ¬ B i := by decide) (hs : ∀ x, foldedSetIterable iter X.env x = pure x := by intro _; rfl) :
    QS X B (.Assign [.Name y py] (.ListComp elt [⟨tg, iter, ifs, 0⟩] scope pos) spos) (pSet i (pLc ti g tt te (own.map (·.2)))) :=
  PS.weak (ps_setLc (g := liftG (gc X) _ g) (tt := liftT (gc X) tt) (te := lift (gc X) te) hc hN hy hyl hsw hi ok hg ht he hs) fun D σ H ⟨O, Γ, P, E, ht, d⟩ => by
    refine lift_lc σ H _ ⟨O, Γ, _, E, ht, fun r Γ1 k v H1 O1 p => ?_⟩
    obtain ⟨Γ2, O2, k2, q⟩ := SPost.store (B := B) E p hB k
    exact d.nx Γ2 k2 _ _ _ q
end
end PL

namespace PL
open PySem L2

/-- a def's promise over data: the parameters' slots (the first one perhaps an object of the caller's own, that comes back changed), what is wanted of the value (a new object or not) and of the slots behind -/
abbrev PCt := List Sl → (Bool → D → List Sl → Prop) → Prop
def mkR : Bool → D → Rv
  | true, d => .fr d
  | false, d => .sh d
/-- own objects are handed in only where br says: at the first place -/
def ownOk (br : Bool) : List Sl → Prop
  | .ow _ :: r => br = true ∧ ∀ s ∈ r, ∃ d, s = .sh d
  | r => ∀ s ∈ r, ∃ d, s = .sh d
def spOf (G : Gc) (n : Nat) (br : Bool) (φ : PCt) : Sp := fun vs H Q _ => vs.length = n ∧ ∃ O as Q0, EnvR G O H (vs.map some) as ∧ ownOk br as ∧ φ as Q0 ∧
  ∀ b d as', Q0 b d as' → ∀ v H' O', EPost G O H (vs.map some) as O' H' as' v (mkR b d) → Q v H'
/-- the parameters' slots behind a call -/
def outA : List Sl → List Sl → List Sl
  | .ow _ :: r, s :: _ => s :: r
  | as, _ => as
/-- the own object that was handed in is still the slot's own -/
def keepA : List Sl → List Sl → Prop
  | .ow _ :: _, .ow _ :: _ => True
  | .ow _ :: _, _ => False
  | _, _ => True
def isOw0 : List Sl → Nat → Bool
  | .ow _ :: _, 0 => true
  | _, _ => false
def retB (as Γ : List Sl) (i : Nat) (Q : Bool → D → List Sl → Prop) : Sl → Prop
  | .sh d => Q false d (outA as Γ)
  | .ow d => isOw0 as i = false ∧ Q true d (outA as Γ)
  | .un => False
def retK (as : List Sl) (Q : Bool → D → List Sl → Prop) (r : Rv) (Γ : List Sl) : Prop := keepA as Γ ∧ match r with
  | .sh d => Q false d (outA as Γ)
  | .fr d => Q true d (outA as Γ)
  | .bo i => retB as Γ i Q (nth Γ i)
def fnEnds (as : List Sl) (Q : Bool → D → List Sl → Prop) : PEnds where
  nx := fun Γ => retK as Q (.sh .non) Γ
  rt := retK as Q
section
variable {G : Gc} {O O' O1 O2 : Addr → Prop} {H H' H1 H2 : Hp} {σ σ' σ1 σ2 : St} {Γ Γ' Γ1 Γ2 : List Sl} {a : Addr} {v : V} {r : Rv} {vs us : List V} {as as' : List Sl} {br : Bool}
def refB (br : Bool) : Nat → Prop := fun i => br = true ∧ i = 0
theorem startG {N : List Str} {i : Nat} {v : V} (h : (vs.map some)[i]? = some (some v)) : (L2.start N vs)[i]? = some (some v) := by
  have hi := (List.getElem?_eq_some_iff.mp h).1
  unfold L2.start
  rw [List.getElem?_append_left hi]
  exact h
theorem startL {N : List Str} (h : vs.length ≤ N.length) : (L2.start N vs).length = N.length := by
  unfold L2.start
  rw [List.length_append, List.length_map, List.length_replicate]
  omega
/-- at the body's start -/
theorem EnvR.enter {N : List Str} {n : Nat} (E : EnvR G O H (vs.map some) as) (hn : N.length = vs.length + n) : EnvR G O H (L2.start N vs) (as ++ List.replicate n .un) := by
  have hl : vs.length = as.length := by have := E.len; simpa using this
  have low : ∀ {i : Nat} {s : Sl}, (as ++ List.replicate n Sl.un)[i]? = some s → s = .un ∨ (as[i]? = some s ∧ i < vs.length) := fun {i s} e => by
    by_cases hi : i < as.length
    · rw [List.getElem?_append_left hi] at e; exact .inr ⟨e, by omega⟩
    · rw [List.getElem?_append_right (by omega), List.getElem?_replicate] at e
      split at e <;> cases e
      exact .inl rfl
  have up : ∀ {i : Nat}, i < vs.length → (L2.start N vs)[i]? = (vs.map some)[i]? := fun {i} hi => by
    unfold L2.start
    rw [List.getElem?_append_left (by simpa using hi)]
  refine ⟨by rw [startL (by omega), List.length_append, List.length_replicate]; omega, fun i s e => ?_, fun i j b x y e1 e2 e3 e4 => ?_, E.trk⟩
  · rcases low e with z | ⟨z, hi⟩
    · subst z; trivial
    · rw [up hi]; exact E.sl i s z
  · rcases low e1 with z | ⟨z1, h1⟩
    · cases z
    · rcases low e2 with z | ⟨z2, h2⟩
      · cases z
      · rw [up h1] at e3; rw [up h2] at e4
        exact E.uni i j b x y z1 z2 e3 e4
theorem SS.enter {N : List Str} {n : Nat} (E : EnvR G O H (vs.map some) as) {b : Addr} (h : SS (L2.start N vs) (as ++ List.replicate n .un) b) : SS (vs.map some) as b := by
  have hl : vs.length = as.length := by have := E.len; simpa using this
  obtain ⟨i, d, e1, e2⟩ := h
  by_cases hi : i < as.length
  · rw [List.getElem?_append_left hi] at e1
    refine ⟨i, d, e1, ?_⟩
    unfold L2.start at e2
    rw [List.getElem?_append_left (by rw [List.length_map]; omega)] at e2
    exact e2
  · rw [List.getElem?_append_right (by omega), List.getElem?_replicate] at e1
    split at e1 <;> cases e1
theorem SS.startUp {N : List Str} {n : Nat} (E : EnvR G O H (vs.map some) as) {b : Addr} (h : SS (vs.map some) as b) : SS (L2.start N vs) (as ++ List.replicate n .un) b := by
  obtain ⟨i, d, e1, e2⟩ := h
  have hi := (List.getElem?_eq_some_iff.mp e1).1
  exact ⟨i, d, by rw [List.getElem?_append_left hi]; exact e1, startG e2⟩
/-- the parameters' slots behind the body -/
theorem EnvR.out {N : List Str} {n : Nat} (E : EnvR G O H (vs.map some) as) (ok : ownOk br as) (p : SPost G (refB br) O H (L2.start N vs) (as ++ List.replicate n .un) O' H' σ' Γ') (kp : keepA as Γ') :
    TPost G O H (vs.map some) as O' H' (outA as Γ') ∧ (∀ b, SS (vs.map some) (outA as Γ') b → SS σ' Γ' b) := by
  have fS : Frm O H (SS (vs.map some) as) O' H' (SS σ' Γ') := ⟨fun b o e nn => p.frm.at_ b o e fun z => nn (z.enter E), p.frm.new, fun b o nn => p.frm.old b o fun z => nn (z.enter E), fun b z => (p.frm.own b z).elim (fun y => .inl (y.enter E)) .inr, p.frm.trk⟩
  have k : Kp O H O' H' := fS.kp fun b z => E.sub z
  cases as with
  | nil =>
    refine ⟨⟨⟨fS.at_, fS.new, fS.old, fun b ⟨i, d, e, _⟩ => by simp [outA] at e, fS.trk⟩, ⟨E.len, fun i s e => by simp [outA] at e, fun i j b x y e1 => by simp [outA] at e1, p.env.trk⟩⟩, fun b ⟨i, d, e, _⟩ => by simp [outA] at e⟩
  | cons a0 ar =>
    cases vs with
    | nil => have := E.len; simp at this
    | cons v0 vr =>
      have allsh : ∀ {i : Nat} {s : Sl}, i ≠ 0 → (a0 :: ar)[i]? = some s → ∃ d, s = .sh d := fun {i s} hi e => by
        cases i with
        | zero => exact absurd rfl hi
        | succ i =>
          have m : s ∈ ar := List.mem_of_getElem? (by simpa using e)
          cases a0 with
          | ow d => exact ok.2 s m
          | un => exact ok s (List.mem_cons_of_mem _ m)
          | sh d => exact ok s (List.mem_cons_of_mem _ m)
      have shk : ∀ {i : Nat} {d : D}, (a0 :: ar)[i]? = some (.sh d) → SlR G O' H' (((v0 :: vr).map some)[i]?) (.sh d) := fun {i d} e => by
        obtain ⟨v, ev, rv⟩ := E.sl i _ e
        exact ⟨v, ev, rv.keep k⟩
      cases a0 with
      | un =>
        have := ok .un List.mem_cons_self
        obtain ⟨d, z⟩ := this
        cases z
      | sh d0 =>
        have noow : ∀ {i : Nat} {d : D}, (Sl.sh d0 :: ar)[i]? = some (.ow d) → False := fun {i d} e => by
          cases i with
          | zero => cases e
          | succ i => obtain ⟨x, z⟩ := allsh (Nat.succ_ne_zero i) e; cases z
        have nS : ∀ b, ¬ SS ((v0 :: vr).map some) (Sl.sh d0 :: ar) b := fun b ⟨i, d, e, _⟩ => noow e
        refine ⟨⟨⟨fS.at_, fS.new, fS.old, fun b z => (nS b z).elim, fS.trk⟩, ⟨E.len, fun i s e => ?_, fun i j b x y e1 => (noow e1).elim, p.env.trk⟩⟩, fun b z => (nS b z).elim⟩
        have e' : (Sl.sh d0 :: ar)[i]? = some s := e
        cases i with
        | zero => cases e'; exact shk (i := 0) rfl
        | succ i =>
          obtain ⟨d, z⟩ := allsh (Nat.succ_ne_zero i) e'
          subst z
          exact shk e'
      | ow d0 =>
        cases Γ' with
        | nil => exact kp.elim
        | cons g0 gr =>
          cases g0 with
          | un => exact kp.elim
          | sh _ => exact kp.elim
          | ow d1 =>
            have hbr : br = true := ok.1
            have e0 : σ'[0]? = some (some v0) := (p.ref 0 ⟨hbr, rfl⟩).trans (startG rfl)
            obtain ⟨a, ea, oa, wa⟩ := p.env.sl 0 (.ow d1) rfl
            rw [e0] at ea
            cases ea
            have only : ∀ {i : Nat} {d : D}, (Sl.ow d1 :: ar)[i]? = some (.ow d) → i = 0 ∧ d = d1 := fun {i d} e => by
              cases i with
              | zero => cases e; exact ⟨rfl, rfl⟩
              | succ i => obtain ⟨x, z⟩ := allsh (Nat.succ_ne_zero i) (by simpa using e); cases z
            have inS : ∀ b, SS ((V.ref a :: vr).map some) (Sl.ow d1 :: ar) b → SS σ' (Sl.ow d1 :: gr) b := fun b ⟨i, d, e1, e2⟩ => by
              obtain ⟨rfl, rfl⟩ := only e1
              cases e2
              exact ⟨0, d, rfl, e0⟩
            refine ⟨⟨⟨fS.at_, fS.new, fS.old, fun b z => fS.own b (inS b z), fS.trk⟩, ⟨E.len, fun i s e => ?_, fun i j b x y e1 e2 _ _ => (only e1).1.trans (only e2).1.symm, p.env.trk⟩⟩, inS⟩
            have e' : (Sl.ow d1 :: ar)[i]? = some s := e
            cases i with
            | zero => cases e'; exact ⟨a, rfl, oa, wa⟩
            | succ i =>
              obtain ⟨d, z⟩ := allsh (Nat.succ_ne_zero i) (by simpa using e')
              subst z
              exact shk (by simpa using e')
/-- the value of a return, for the caller -/
theorem ret_ok {N : List Str} {n : Nat} {Q : Bool → D → List Sl → Prop} (E : EnvR G O H (vs.map some) as) (ok : ownOk br as) (p : RPost G (refB br) O H (L2.start N vs) (as ++ List.replicate n .un) O' H' σ' Γ' v r) (h : retK as Q r Γ') :
    ∃ b d as' O2, Q b d as' ∧ EPost G O H (vs.map some) as O2 H' as' v (mkR b d) := by
  obtain ⟨kp, h⟩ := h
  obtain ⟨t, inS⟩ := E.out ok p.sp kp
  cases r with
  | sh d => exact ⟨false, d, _, O', h, t.frm, t.env, p.held, fun _ _ e _ => by cases e⟩
  | fr d =>
    obtain ⟨a, e, o, nn, w⟩ := p.held
    exact ⟨true, d, _, O', h, t.frm, t.env, ⟨a, e, o, fun z => nn (inS a z), w⟩, fun d' x _ e' => p.fresh d x rfl e'⟩
  | bo i =>
    have hv : σ'[i]? = some (some v) := p.held
    have h : retB as Γ' i Q (nth Γ' i) := h
    cases q : nth Γ' i with
    | un => rw [q] at h; exact h.elim
    | sh d =>
      rw [q] at h
      obtain ⟨u, eu, ru⟩ := p.sp.env.sl i _ (nth_sh q)
      rw [hv] at eu
      cases eu
      exact ⟨false, d, _, O', h, t.frm, t.env, ru, fun _ _ e _ => by cases e⟩
    | ow d =>
      rw [q] at h
      obtain ⟨hi, h⟩ := h
      obtain ⟨a, ea, oa, wa⟩ := p.sp.env.sl i _ (nth_ow q)
      rw [hv] at ea
      cases ea
      -- the own object at a is none of the parameters'
      have nS : ¬ SS (vs.map some) (outA as Γ') a := fun z => by
        obtain ⟨j, x, e1, e2⟩ := z
        have js : SS σ' Γ' a := inS a ⟨j, x, e1, e2⟩
        cases as with
        | nil => simp [outA] at e1
        | cons a0 ar =>
          have j0 : j = 0 ∧ ∃ d0, a0 = .ow d0 := by
            cases a0 with
            | un => have e1' : (Sl.un :: ar)[j]? = some (.ow x) := e1; obtain ⟨y, z⟩ := ok _ (List.mem_of_getElem? e1'); cases z
            | sh d0 => have e1' : (Sl.sh d0 :: ar)[j]? = some (.ow x) := e1; obtain ⟨y, z⟩ := ok _ (List.mem_of_getElem? e1'); cases z
            | ow d0 =>
              refine ⟨?_, d0, rfl⟩
              cases j with
              | zero => rfl
              | succ j =>
                cases Γ' with
                | nil => exact kp.elim
                | cons g0 gr =>
                  have e1' : ar[j]? = some (.ow x) := by simpa [outA] using e1
                  obtain ⟨y, z⟩ := ok.2 _ (List.mem_of_getElem? e1')
                  cases z
          obtain ⟨rfl, d0, rfl⟩ := j0
          have hbr : br = true := ok.1
          cases Γ' with
          | nil => exact kp.elim
          | cons g0 gr =>
            cases g0 with
            | un => exact kp.elim
            | sh _ => exact kp.elim
            | ow d1 =>
              have e0 : σ'[0]? = some (some (.ref a)) := (p.sp.ref 0 ⟨hbr, rfl⟩).trans (startG e2)
              have i0 := p.sp.env.uni i 0 a d d1 (nth_ow q) rfl hv e0
              subst i0
              cases hi
      have hn : H a = none := (p.sp.frm.own a ⟨i, d, nth_ow q, hv⟩).elim (fun z => by
        have z' := z.enter E
        obtain ⟨j, x, e1, e2⟩ := z'
        exfalso
        cases as with
        | nil => simp at e1
        | cons a0 ar =>
          cases a0 with
          | un => obtain ⟨y, z⟩ := ok _ (List.mem_of_getElem? e1); cases z
          | sh d0 => obtain ⟨y, z⟩ := ok _ (List.mem_of_getElem? e1); cases z
          | ow d0 =>
            cases j with
            | succ j => obtain ⟨y, z⟩ := ok.2 _ (List.mem_of_getElem? (by simpa using e1)); cases z
            | zero =>
              cases Γ' with
              | nil => exact kp.elim
              | cons g0 gr =>
                cases g0 with
                | un => exact kp.elim
                | sh _ => exact kp.elim
                | ow d1 =>
                  have e0 : σ'[0]? = some (some (.ref a)) := (p.sp.ref 0 ⟨ok.1, rfl⟩).trans (startG e2)
                  have i0 := p.sp.env.uni i 0 a d d1 (nth_ow q) rfl hv e0
                  subst i0
                  cases hi) id
      exact ⟨true, d, _, O', h, t.frm, t.env, ⟨a, rfl, oa, nS, wa⟩, fun _ x _ e => by cases e; exact hn⟩
end
section
variable {P : Program} {w : World} {K : PySem.W.Frag} {mg : Str → Option Value} {base : Heap}
/-- THE RULE for a def: its body as a term of rules, and the reading of that term over data -/
theorem fun_ok {x qual : Str} {st : Stmt} {f : Addr} {fd : FuncData} {N ps : List Str} {k n : Nat} {br : Bool} {φ : PCt} (F : Fun K x qual st f fd) (S : FnScope N ps (defScope st)) (hn : N.length = ps.length + n)
    (hbody : ∀ (cdv : Value) (A : Around) (outer : List Env) (s : Shared) (H : Hp) (E : XK), Room k (A.deeper (PyProof.Rows.envOfC qual (defScope st) s.heap.objs.size f cdv)) →
      ∃ t, QSs (cxOf CX0 P w K mg base N qual (defScope st) f cdv A outer s H E).nox (refB br) (defBody st) t ∧ ∀ as Q0, φ as Q0 → t (fnEnds as Q0) (as ++ List.replicate n .un)) :
    FnOk P w K mg base CX0 (k + 1) f fd ps (spOf ⟨K, mg⟩ ps.length br φ) := by
  refine F.ok S (fun vs H Q E h => h.1) fun cdv A outer s H vs Q E hr h => ?_
  obtain ⟨t, ht, q⟩ := hbody cdv A outer s H E hr
  refine ⟨_, ht, ?_⟩
  obtain ⟨hl, O, as, Q0, En, ok, hφ, hq⟩ := h
  have hN : N.length = vs.length + n := by rw [hn, hl]
  have En' := En.enter (N := N) hN
  refine ⟨O, as ++ List.replicate n Sl.un, fnEnds as Q0, En', q as Q0 hφ, ⟨fun Γ' k σ' H' O' p => ?_, fun r Γ' k v σ' H' O' p => ?_, fun _ k => k.elim, fun _ k => k.elim⟩⟩
  · obtain ⟨b, d, as', O2, k2, e⟩ := ret_ok (v := .non) (r := .sh .non) En ok ⟨p, .non, fun _ _ e _ => by cases e⟩ k
    exact hq b d as' k2 _ _ _ e
  · obtain ⟨b, d, as', O2, k2, e⟩ := ret_ok En ok p k
    exact hq b d as' k2 _ _ _ e
end
end PL

namespace PL
open PySem L2

/-- the call's own part: the arguments' values, what the caller gets -/
def callK (br : Bool) (φ : PCt) (rs : List Rv) (Γ : List Sl) (Q : Rv → List Sl → Prop) : Prop := match br with
  | false => fzA Γ rs fun ds Γ2 => φ (ds.map .sh) fun b d _ => Q (mkR b d) Γ2
  | true => match rs with
    | .bo i :: rs' => fzA Γ rs' fun ds Γ2 => match nth Γ2 i with
      | .ow d0 => φ (.ow d0 :: ds.map .sh) fun b d as' => match as' with
        | .ow d1 :: _ => Q (mkR b d) (put Γ2 i (.ow d1))
        | _ => False
      | _ => False
    | _ => False
section
variable {G : Gc} {O O' O1 O2 : Addr → Prop} {H H' H1 H2 : Hp} {σ σ' σ1 σ2 : St} {Γ Γ' Γ1 Γ2 : List Sl} {a : Addr} {v : V} {r : Rv} {vs us : List V} {as as' : List Sl} {br : Bool}
theorem sh_get {ds : List D} {i : Nat} {s : Sl} (h : (ds.map Sl.sh)[i]? = some s) : ∃ d, s = .sh d ∧ ds[i]? = some d := by
  rw [List.getElem?_map] at h
  cases q : ds[i]? with
  | none => rw [q] at h; cases h
  | some d => rw [q] at h; cases h; exact ⟨d, rfl, rfl⟩
theorem EnvR.args {ds : List D} (t : ∀ b, O b → H b ≠ none) (r : Reps G O H vs ds) : EnvR G O H (vs.map some) (ds.map .sh) := by
  refine ⟨by rw [List.length_map, List.length_map, r.length], fun i s e => ?_, fun i j a d e e1 _ _ _ => ?_, t⟩
  · obtain ⟨d, rfl, ed⟩ := sh_get e
    obtain ⟨v, ev, rv⟩ := r.get ed
    exact ⟨v, by rw [List.getElem?_map, ev]; rfl, rv⟩
  · obtain ⟨x, z, _⟩ := sh_get e1; cases z
theorem EnvR.argsO {ds : List D} {d : D} (t : ∀ b, O b → H b ≠ none) (o : O a) (w : OwnD G O H a d) (r : Reps G O H vs ds) : EnvR G O H ((V.ref a :: vs).map some) (.ow d :: ds.map .sh) := by
  have E := EnvR.args t r
  have only : ∀ {i : Nat} {x : D}, (Sl.ow d :: ds.map Sl.sh)[i]? = some (.ow x) → i = 0 := fun {i x} e => by
    cases i with
    | zero => rfl
    | succ i => obtain ⟨y, z, _⟩ := sh_get (show (ds.map Sl.sh)[i]? = some (.ow x) by simpa using e); cases z
  refine ⟨by simpa using E.len, fun i s e => ?_, fun i j b x y e1 e2 _ _ => (only e1).trans (only e2).symm, t⟩
  cases i with
  | zero => cases e; exact ⟨a, rfl, o, w⟩
  | succ i => simpa using E.sl i s (by simpa using e)
/-- what a callee did, in the caller's eyes -/
theorem call_back (E : EnvR G O H σ Γ) {S1 S2 : Addr → Prop} (f : Frm O H S1 O' H' S2) (hS : ∀ b, ¬ S1 b) (t : ∀ b, O' b → H' b ≠ none) : TPost G O H σ Γ O' H' Γ := by
  have hk : ∀ b, SS σ Γ b → O' b ∧ H' b = H b := fun b z => ⟨f.old b (E.sub z) (hS b), by
    cases q : H b with
    | none => exact absurd q (SS.at E z)
    | some u => exact f.at_ b u q (hS b)⟩
  exact ⟨⟨fun b o e _ => f.at_ b o e (hS b), f.new, fun b o _ => f.old b o (hS b), fun b z => .inl z, f.trk⟩, E.keep ⟨fun b o e _ => f.at_ b o e (hS b), f.new⟩ hk t⟩
theorem callK_ok {φ : PCt} {n : Nat} {rs : List Rv} {K0 : Rv → List Sl → Prop} {Q : VK} {X : XK} (E : EnvR G O H σ Γ) (hr : Paired (Held G O H σ Γ) vs rs) (nf : NoFr rs) (hn : rs.length = n) (h : callK br φ rs Γ K0)
    (hq : ∀ r Γ', K0 r Γ' → ∀ v H' O', EPost G O H σ Γ O' H' Γ' v r → Q v H') : spOf G n br φ vs H Q X := by
  have hl : vs.length = n := by rw [← hn]; exact Paired.length hr
  cases br with
  | false =>
    obtain ⟨ds, Γ2, O2, hφ, p2, rr⟩ := fzA_ok E hr nf h
    refine ⟨hl, O2, ds.map .sh, _, EnvR.args p2.env.trk rr, ?_, hφ, fun b d as' k v H' O' p => ?_⟩
    · have : ∀ s ∈ ds.map Sl.sh, ∃ d, s = Sl.sh d := fun s hs => by obtain ⟨d, _, e⟩ := List.mem_map.mp hs; exact ⟨d, e.symm⟩
      cases ds with
      | nil => exact this
      | cons d ds => exact this
    · have nS : ∀ b, ¬ SS (vs.map some) (ds.map Sl.sh) b := fun b ⟨i, x, e1, _⟩ => by obtain ⟨y, z, _⟩ := sh_get e1; cases z
      have t := call_back p2.env p.frm nS p.env.trk
      refine hq _ _ k v H' O' (.after E p2 ⟨t.frm, t.env, ?_, p.fresh⟩)
      cases b with
      | false => exact p.held
      | true =>
        obtain ⟨a, e, o, _, w⟩ := p.held
        exact ⟨a, e, o, fun z => SS.at p2.env z (p.fresh d a rfl e), w⟩
  | true =>
    cases rs with
    | nil => exact h.elim
    | cons r0 rs' =>
      cases r0 with
      | sh _ => exact h.elim
      | fr _ => exact h.elim
      | bo i =>
        cases hr with
        | cons h0 hr' =>
          rename_i v0 vr
          have h : fzA Γ rs' fun ds Γ2 => match nth Γ2 i with
            | .ow d0 => φ (.ow d0 :: ds.map .sh) fun b d as' => match as' with
              | .ow d1 :: _ => K0 (mkR b d) (put Γ2 i (.ow d1))
              | _ => False
            | _ => False := h
          obtain ⟨ds, Γ2, O2, hφ, p2, rr⟩ := fzA_ok E hr' (fun r hr => nf r (List.mem_cons_of_mem _ hr)) h
          split at hφ
          · rename_i d0 e0
            have hv : σ[i]? = some (some v0) := h0
            obtain ⟨a, ea, oa, w⟩ := p2.env.sl i _ (nth_ow e0)
            rw [hv] at ea
            cases ea
            have hs : SS σ Γ2 a := ⟨i, d0, nth_ow e0, hv⟩
            refine ⟨hl, O2, .ow d0 :: ds.map .sh, _, EnvR.argsO p2.env.trk oa w rr, ⟨rfl, fun s hs => by obtain ⟨d, _, e⟩ := List.mem_map.mp hs; exact ⟨d, e.symm⟩⟩, hφ, fun b d as' k v H' O' p => ?_⟩
            split at k
            · rename_i d1 ar
              obtain ⟨a', ea', oa', w'⟩ := p.env.sl 0 (.ow d1) rfl
              cases ea'
              have S1 : ∀ b, SS ((V.ref a :: vr).map some) (.ow d0 :: ds.map .sh) b ↔ b = a := fun b => by
                constructor
                · rintro ⟨j, x, e1, e2⟩
                  cases j with
                  | zero => cases e2; rfl
                  | succ j => obtain ⟨y, z, _⟩ := sh_get (show (ds.map Sl.sh)[j]? = some (.ow x) by simpa using e1); cases z
                · rintro rfl; exact ⟨0, d0, rfl, rfl⟩
              have back : ∀ {j : Nat} {x : D}, (put Γ2 i (.ow d1))[j]? = some (.ow x) → ∃ y, Γ2[j]? = some (.ow y) ∧ (j ≠ i → y = x) := fun {j x} q => by
                rw [put_eq] at q
                by_cases hj : i = j
                · subst hj; exact ⟨d0, nth_ow e0, fun z => absurd rfl z⟩
                · rw [List.getElem?_set_ne hj] at q; exact ⟨x, q, fun _ => rfl⟩
              have sub : ∀ b, SS σ (put Γ2 i (.ow d1)) b → SS σ Γ2 b := fun b ⟨j, x, e1, e2⟩ => by
                obtain ⟨y, ey, _⟩ := back e1
                exact ⟨j, y, ey, e2⟩
              have il : i < Γ2.length := (List.getElem?_eq_some_iff.mp (nth_ow e0)).1
              have kp : Kp O2 H O' H' := p.frm.kp fun b z => by rw [(S1 b).mp z]; exact oa
              have oth : ∀ b, SS σ Γ2 b → b ≠ a → O' b ∧ H' b = H b := fun b z ne => ⟨p.frm.old b (p2.env.sub z) fun y => ne ((S1 b).mp y), by
                cases q : H b with
                | none => exact absurd q (SS.at p2.env z)
                | some u => exact p.frm.at_ b u q fun y => ne ((S1 b).mp y)⟩
              have En : EnvR G O' H' σ (put Γ2 i (.ow d1)) := by
                refine ⟨by rw [put_eq, List.length_set]; exact p2.env.len, fun j s e => ?_, fun j j' b x y e1 e2 e3 e4 => ?_, p.env.trk⟩
                · rw [put_eq] at e
                  by_cases hj : i = j
                  · subst hj
                    rw [List.getElem?_set_self il] at e
                    cases e
                    exact ⟨a, hv, oa', w'⟩
                  · rw [List.getElem?_set_ne hj] at e
                    refine (p2.env.sl j s e).keep kp fun b x es eb => oth b ⟨j, x, by rw [e, es], eb⟩ fun z => ?_
                    subst z
                    subst es
                    exact hj (p2.env.uni i j b d0 x (nth_ow e0) e hv eb)
                · obtain ⟨x', ex, _⟩ := back e1
                  obtain ⟨y', ey, _⟩ := back e2
                  exact p2.env.uni j j' b x' y' ex ey e3 e4
              have fr : Frm O2 H (SS σ Γ2) O' H' (SS σ (put Γ2 i (.ow d1))) := ⟨fun b o e n => p.frm.at_ b o e fun z => n (by rw [(S1 b).mp z]; exact hs), p.frm.new, fun b o n => p.frm.old b o fun z => n (by rw [(S1 b).mp z]; exact hs), fun b z => .inl (sub b z), p.frm.trk⟩
              refine hq _ _ k v H' O' (.after E p2 ⟨fr, En, ?_, p.fresh⟩)
              cases b with
              | false => exact p.held
              | true =>
                obtain ⟨x, e, o, _, w2⟩ := p.held
                exact ⟨x, e, o, fun z => SS.at p2.env (sub x z) (p.fresh d x rfl e), w2⟩
            · exact k.elim
          · exact hφ.elim
end
def pCall (br : Bool) (φ : PCt) (n : Nat) (t : PAt) : PEt := fun Γ Q => t Γ fun rs Γ1 => rs.length = n ∧ callK br φ rs Γ1 Q
section
variable {X : Cx} {k n : Nat} {br : Bool} {φ : PCt} {f C : Addr} {fd : FuncData} {ps : List Str} {x m : Str} {p pos apos : Pos} {e o : Expr} {es : List Expr} {ta : PEt} {t : PAt}
/-- f(e, ..) -/
theorem qe_call (F : FnOk X.prog X.w X.K X.mg X.base CX0 k f fd ps (spOf (gc X) n br φ)) (hr : Room k X.A) (hg : Gl X x) (hm : X.mg x = some (.ref f)) (hk : PySem.W.keepIn X.K (.ref f) = true) (hb : Binds X.K fd ps [])
    (ha : QA' X (e :: es) t) (hdb : (x == ("__debug__" : Str)) = false := by decide) (he : starEach (e :: es) X.env = (false, eval e X.env) :: starEach es X.env := by rfl) (hpl : (backTo pos (starEach es X.env)).any (·.1) = false := by rfl) :
    QE X (.Call (.Name x p) (e :: es) [] pos) (pCall br φ n t) := PE.weak (pe_call (E := E0) F hr hg hm hk hb .nil pass0 ha hdb he hpl) fun σ H Q ⟨O, Γ, Q0, E, ht, hq⟩ => by
  refine ⟨O, Γ, _, E, ht, fun rs Γ1 k nf vs H1 O1 p => ?_⟩
  show spOf (gc X) n br φ (vs ++ []) H1 Q E0
  rw [List.append_nil]
  exact callK_ok p.env p.helds nf k.1 k.2 fun r Γ' k v H' O' p3 => hq r Γ' k v H' O' (.after E p.t p3)
/-- a method of a class -/
structure MtA (X : Cx) (c : Nat) (m : Str) (C f : Addr) : Prop where
  mg : X.mg (ct c).1 = some (.ref C)
  cl : Cls X.K C
  mt : Meth X.K C m f
  no : m ∉ (ct c).2
def isIns (c : Nat) : D → Prop
  | .ins c' _ => c' = c
  | _ => False
theorem lookup_none : ∀ {fvs : List (Str × V)} {m : Str}, m ∉ fvs.map (·.1) → fvs.lookup m = none
  | [], _, _ => rfl
  | (g, v) :: r, m, h => by
    have h1 : m ≠ g := fun z => h (by rw [z]; exact List.mem_cons_self)
    have h2 : m ∉ r.map (·.1) := fun z => h (List.mem_cons_of_mem _ z)
    rw [List.lookup_cons, beq_eq_false_iff_ne.mpr h1]
    exact lookup_none h2
theorem isIns_ok {G : Gc} {O : Addr → Prop} {H : Hp} {v : V} {d : D} {c : Nat} (w : Vw G O H v d) (h : isIns c d) : ∃ (a C dx : Addr) (fvs : List (Str × V)) (ds : List D), v = .ref a ∧ G.mg (ct c).1 = some (.ref C) ∧ H a = some (.ins C dx fvs) ∧ fvs.map (·.1) = (ct c).2.take ds.length := by
  unfold isIns at h
  split at h
  · subst h
    obtain ⟨a, C, dx, fvs, e, hc, ha, hk, _⟩ := w.ins
    exact ⟨a, C, dx, fvs, _, e, hc, ha, hk⟩
  · exact h.elim
/-- o.m(e, ..) -/
def pMeth (c : Nat) (br : Bool) (φ : PCt) (n : Nat) (to : PEt) (t : PAt) : PEt := fun Γ Q => to Γ fun ro Γ1 => wd Γ1 ro fun d => isIns c d ∧ t Γ1 fun rs Γ2 => rs.length + 1 = n ∧ callK br φ (unfr ro :: rs) Γ2 Q
theorem unfr_nofr (r : Rv) : ∀ d, unfr r ≠ .fr d := fun d e => by cases r <;> cases e
theorem qe_meth {c : Nat} {pl : Sem Bool} (M : MtA X c m C f) (F : FnOk X.prog X.w X.K X.mg X.base CX0 k f fd ps (spOf (gc X) n br φ)) (hr : Room k X.A) (hb : Binds X.K fd ps []) (ho : QE X o ta) (ha : QA' X (e :: es) t)
    (hst : starEach (e :: es) X.env = (false, eval e X.env) :: starEach es X.env := by rfl) (hpl : (backTo pos (starEach es X.env)).any (·.1) = false := by rfl)
    (ht : eval (.Call (.Attribute o m apos) (e :: es) [] pos) X.env = (do
      let ov ← eval o X.env
      standAt apos.atName
      let (f, first) ← holding [ov] (getMethod ov m pl)
      callWith pos f first (backTo pos (starEach (e :: es) X.env)) (backToKw pos (keywordEach [] X.env))) := by rfl) :
    QE X (.Call (.Attribute o m apos) (e :: es) [] pos) (pMeth c br φ n ta t) := PE.weak (pe_meth (E := E0) ho M.cl M.mt F hr hb .nil pass0 ha hst hpl ht) fun σ H Q ⟨O, Γ, Q0, E, ht, hq⟩ => by
  refine ⟨O, Γ, _, E, ht, fun ro Γ1 k1 v H1 O1 p => ?_⟩
  obtain ⟨d, ⟨hi, k2⟩, w⟩ := p.held.wd p.env k1
  obtain ⟨a, C', dx, fvs, ds, e1, hc, hx, hk⟩ := isIns_ok w hi
  have hC : C' = C := by
    have z := (show X.mg (ct c).1 = some (.ref C') from hc).symm.trans M.mg
    cases z; rfl
  subst hC
  obtain ⟨O2, p2⟩ := p.unfr E
  refine ⟨a, dx, fvs, e1, hx, lookup_none fun z => M.no (by rw [hk] at z; exact List.mem_of_mem_take z), O2, Γ1, _, p2.env, k2, fun rs Γ2 k3 nf vs H2 O3 p3 => ?_⟩
  show spOf (gc X) n br φ (v :: (vs ++ [])) H2 Q E0
  rw [List.append_nil]
  refine callK_ok p3.env (.cons (p2.held.frm p2.env p3.frm) p3.helds) (fun r hr d => ?_) (by rw [List.length_cons]; exact k3.1) k3.2 fun r Γ' k v H' O' p4 => hq r Γ' k v H' O' (.after E (p2.t.trans E p3.t) p4)
  rcases List.mem_cons.mp hr with z | z
  · rw [z]; exact unfr_nofr ro d
  · exact nf r z d
theorem qe_meth0 {c : Nat} {pl : Sem Bool} (M : MtA X c m C f) (F : FnOk X.prog X.w X.K X.mg X.base CX0 k f fd ps (spOf (gc X) n br φ)) (hr : Room k X.A) (hb : Binds X.K fd ps []) (ho : QE X o ta)
    (ht : eval (.Call (.Attribute o m apos) [] [] pos) X.env = (do
      let ov ← eval o X.env
      standAt apos.atName
      let (f, first) ← holding [ov] (getMethod ov m pl)
      callWith pos f first (backTo pos (starEach [] X.env)) (backToKw pos (keywordEach [] X.env))) := by rfl) :
    QE X (.Call (.Attribute o m apos) [] [] pos) (pMeth c br φ n ta pANil) := PE.weak (pe_meth0 (E := E0) ho M.cl M.mt F hr hb .nil pass0 ht) fun σ H Q ⟨O, Γ, Q0, E, ht, hq⟩ => by
  refine ⟨O, Γ, _, E, ht, fun ro Γ1 k1 v H1 O1 p => ?_⟩
  obtain ⟨d, ⟨hi, k2⟩, w⟩ := p.held.wd p.env k1
  obtain ⟨a, C', dx, fvs, ds, e1, hc, hx, hk⟩ := isIns_ok w hi
  have hC : C' = C := by
    have z := (show X.mg (ct c).1 = some (.ref C') from hc).symm.trans M.mg
    cases z; rfl
  subst hC
  obtain ⟨O2, p2⟩ := p.unfr E
  refine ⟨a, dx, fvs, e1, hx, lookup_none fun z => M.no (by rw [hk] at z; exact List.mem_of_mem_take z), ?_⟩
  show spOf (gc X) n br φ ([v] ++ []) H1 Q E0
  rw [List.append_nil]
  have k2 : ([] : List Rv).length + 1 = n ∧ callK br φ (unfr ro :: []) Γ1 Q0 := k2
  refine callK_ok p2.env (.cons p2.held .nil) (fun r hr d => ?_) k2.1 k2.2 fun r Γ' k v H' O' p4 => hq r Γ' k v H' O' (.after E p2.t p4)
  rcases List.mem_cons.mp hr with z | z
  · rw [z]; exact unfr_nofr ro d
  · cases z
/-- C(e, ..): φ is the promise of __init__ -/
def pMake (c : Nat) (φ : PCt) (n : Nat) (t : PAt) : PEt := fun Γ Q => t Γ fun rs Γ1 => rs.length + 1 = n ∧ fzA Γ1 rs fun ds Γ2 => φ (.ow (.ins c []) :: ds.map .sh) fun b d as' => match d, as' with
  | .non, .ow d1 :: _ => Q (.fr d1) Γ2
  | _, _ => False
theorem qe_make {c : Nat} (hm : X.mg (ct c).1 = some (.ref C)) (M : Mk X.K C f) (F : FnOk X.prog X.w X.K X.mg X.base CX0 k f fd ps (spOf (gc X) n true φ)) (hr : Room (k + 1) X.A) (hg : Gl X x) (hx : x = (ct c).1) (hb : Binds X.K fd ps [])
    (ha : QA' X (e :: es) t) (hdb : (x == ("__debug__" : Str)) = false := by decide) (he : starEach (e :: es) X.env = (false, eval e X.env) :: starEach es X.env := by rfl) (hpl : (backTo pos (starEach es X.env)).any (·.1) = false := by rfl) :
    QE X (.Call (.Name x p) (e :: es) [] pos) (pMake c φ n t) := PE.weak (pe_make (E := E0) M F hr hg (by rw [hx]; exact hm) hb .nil pass0 ha hdb he hpl) fun σ H Q ⟨O, Γ, Q0, E, ht, hq⟩ => by
  refine ⟨O, Γ, _, E, ht, fun rs Γ1 k nf vs H1 O1 p y dx hy hdx hne => ?_⟩
  show spOf (gc X) n true φ (.ref y :: (vs ++ [])) _ _ E0
  rw [List.append_nil]
  obtain ⟨ds, Γ2, O2, hφ, p2, rr⟩ := fzA_ok p.env p.helds nf k.2
  have hdy : upd H1 dx (.own y) y = none := by rw [upd_ne (Ne.symm hne)]; exact hy
  have t1 : TPost (gc X) O2 H1 σ Γ2 O2 (upd H1 dx (.own y)) Γ2 := ⟨.laid hdx, p2.env.laid hdx⟩
  have t2 : TPost (gc X) O2 (upd H1 dx (.own y)) σ Γ2 (fun b => O2 b ∨ b = y) (upd (upd H1 dx (.own y)) y (.ins C dx [])) Γ2 := ⟨.laidO hdy, t1.env.laidO hdy⟩
  have tt := ((p.t.trans E p2).trans E t1).trans E t2
  have r3 : Reps (gc X) (fun b => O2 b ∨ b = y) (upd (upd H1 dx (.own y)) y (.ins C dx [])) vs ds := (rr.keep (Kp.laid hdx)).keep (Kp.laidO hdy)
  have w : OwnD (gc X) (fun b => O2 b ∨ b = y) (upd (upd H1 dx (.own y)) y (.ins C dx [])) y (.ins c []) := ⟨C, dx, [], hm, upd_same, rfl, .nil⟩
  have hl : vs.length + 1 = n := by rw [← k.1, Paired.length p.helds]
  refine ⟨by rw [List.length_cons]; exact hl, _, .ow (.ins c []) :: ds.map .sh, _, EnvR.argsO t2.env.trk (.inr rfl) w r3, ⟨rfl, fun s hs => by obtain ⟨d, _, e⟩ := List.mem_map.mp hs; exact ⟨d, e.symm⟩⟩, hφ, fun b d as' k4 v H' O' p4 => ?_⟩
  split at k4
  · rename_i d1 ar
    refine ⟨by cases b with
      | false => have hh := p4.held; cases hh; rfl
      | true => obtain ⟨_, _, _, _, w⟩ := p4.held; exact w.elim, ?_⟩
    obtain ⟨a', ea', oa', w'⟩ := p4.env.sl 0 (.ow d1) rfl
    cases ea'
    have S1 : ∀ b, SS ((V.ref y :: vs).map some) (.ow (.ins c []) :: ds.map .sh) b → b = y := fun b ⟨j, x, e1, e2⟩ => by
      cases j with
      | zero => cases e2; rfl
      | succ j => obtain ⟨y, z, _⟩ := sh_get (show (ds.map Sl.sh)[j]? = some (.ow x) by simpa using e1); cases z
    have nS : ¬ SS σ Γ2 y := fun z => SS.at p2.env z hy
    have hk : ∀ b, SS σ Γ2 b → O' b ∧ H' b = upd (upd H1 dx (.own y)) y (.ins C dx []) b := fun b z => by
      have nb : b ≠ y := fun q => nS (by rw [← q]; exact z)
      refine ⟨p4.frm.old b (t2.env.sub z) fun q => nb (S1 b q), ?_⟩
      cases q : upd (upd H1 dx (.own y)) y (.ins C dx []) b with
      | none => exact absurd q (SS.at t2.env z)
      | some u => exact p4.frm.at_ b u q fun z => nb (S1 b z)
    have kp : Kp (fun b => O2 b ∨ b = y) (upd (upd H1 dx (.own y)) y (.ins C dx [])) O' H' := p4.frm.kp fun b z => .inr (S1 b z)
    have En : EnvR (gc X) O' H' σ Γ2 := t2.env.keep kp hk p4.env.trk
    have trk : ∀ b, H' b = none → H1 b = none := fun b h => t1.frm.trk b (t2.frm.trk b (p4.frm.trk b h))
    have fr : Frm O2 H1 (SS σ Γ2) O' H' (SS σ Γ2) := ⟨fun b o e n => p4.frm.at_ b o (by rw [upd_ne (ne_of_none e hy), upd_ne (ne_of_none e hdx)]; exact e) fun z => ne_of_none e hy (S1 b z),
      fun b h => (p4.frm.new b h).elim (fun q => q.elim .inl fun q => .inr (by rw [q]; exact hy)) fun q => .inr (t1.frm.trk b (t2.frm.trk b q)), fun b o n => p4.frm.old b (.inl o) fun z => p2.env.trk b o (by rw [S1 b z]; exact hy), fun b z => .inl z, trk⟩
    exact hq _ _ k4 _ H' O' (.after E (p.t.trans E p2) ⟨fr, En, ⟨y, rfl, oa', nS, w'⟩, fun _ x _ e => by cases e; exact hy⟩)
  · exact k4.elim
end
end PL

namespace PL
open PySem L2

/-- what isinstance asks of an own class, and where it stands -/
structure ClsX (G : Gc) (c : Nat) (C : Addr) : Prop where
  at_ : G.mg (ct c).1 = some (.ref C)
  cls : Cls G.K C
  ha : PySem.W.findIn G.K (.ref C) "__class__" = some (some (.builtin "object.__class__"))
  hn : PySem.W.specialIn G.K (.builtin "object.__class__") "__get__" = some (some (.builtin "getset_descriptor.__get__"))
  htk : PySem.W.takesIn G.K (.builtin "object.__class__") = some true
  hm : PySem.W.mroIn G.K C (.type "object") = some true
/-- the name of a built-in value's type -/
def tyN : D → Option String
  | .non => some "NoneType" | .bl _ => some "bool" | .int _ => some "int" | .str _ => some "str"
  | .lst _ => some "list" | .scr _ => some "list" | .tup _ => some "tuple" | .dct _ => some "dict" | .dcT _ => some "dict"
  | .ins _ _ => none | .cst _ => none
section
variable {G : Gc} {O : Addr → Prop} {H : Hp} {σ : St} {Γ : List Sl} {v : V} {d : D}
theorem tyX_lst {a : Addr} {vs : List V} (h : SqL G.K H a vs) : TyX G.K H (.ref a) (.type "list") := by
  rcases h with (h | ⟨o, h⟩) | ⟨o, its, n, h, hc, _⟩
  · exact .base (.lst h)
  · exact .base (.frz h)
  · exact .kList h hc
theorem tyX_tup {a : Addr} {vs : List V} (h : SqT G.K H a vs) : TyX G.K H (.ref a) (.type "tuple") := by
  rcases h with (h | ⟨o, h⟩) | ⟨o, its, n, h, hc, _⟩
  · exact .base (.tup h)
  · exact .fTuple h
  · exact .kTuple h hc
theorem tyN_ok {T : String} (w : Vw G O H v d) (h : tyN d = some T) : TyX G.K H v (.type T) := by
  cases d with
  | non => cases h; rw [w.non]; exact .base .non
  | bl b => cases h; rw [w.bl]; exact .base (.bl _)
  | int b => cases h; rw [w.int]; exact .base (.int _)
  | str b => cases h; rw [w.str]; exact .base (.str _)
  | lst b => cases h; obtain ⟨a, vs, rfl, ha, _⟩ := w.lst; exact .base (.lst ha)
  | scr b => cases h; obtain ⟨a, rfl, ha⟩ := w.scr; exact tyX_lst ha
  | tup b => cases h; obtain ⟨a, vs, rfl, ha, _⟩ := w.tup; exact tyX_tup ha
  | dct b => cases h; obtain ⟨a, vs, rfl, ha, _⟩ := w.dct; exact .base (.dK ha)
  | dcT b => cases h; obtain ⟨a, vs, rfl, ha, _⟩ := w.dcT; exact .base (.dT ha)
  | ins c xs => cases h
  | cst u => cases h
theorem insX_ok {c : Nat} {xs : List D} {C : Addr} (x : ClsX G c C) (w : Vw G O H v (.ins c xs)) : TyX G.K H v (.ref C) := by
  obtain ⟨a, C', dx, fvs, rfl, hC, ha, _⟩ := w.ins
  rw [x.at_] at hC
  cases hC
  exact .base (.ins ha x.cls x.ha x.hn x.htk x.hm)
end
/-- isinstance's answers: fb for the names of built-in types, fo for the own classes -/
def isiA (fb : String → Option Bool) (fo : Nat → Option Bool) : D → Option Bool
  | .ins c _ => fo c
  | d => (tyN d).bind fb
structure IsiOk (G : Gc) (us : List Value) (fb : String → Option Bool) (fo : Nat → Option Bool) : Prop where
  bi : ∀ T b, fb T = some b → PySem.W.kitAny G.K (.type T) us = some b
  own : ∀ c b, fo c = some b → ∃ C, ClsX G c C ∧ PySem.W.kitAny G.K (.ref C) us = some b
/-- isinstance(d, class) -/
def gIsi (cs : List V) (ans : D → Option Bool) : PCl
  | [d, .cst u], k => cs = [u] ∧ ∃ b, ans d = some b ∧ k (.sh (.bl b))
  | [d, .tup us], k => us = cs.map .cst ∧ ∃ b, ans d = some b ∧ k (.sh (.bl b))
  | _, _ => False
/-- isinstance with the classes us, one or a tuple of them -/
def rIsiA (K : PySem.W.Frag) (us : List Value) (cs : List V) : List V → Hp → VK → Prop := fun xs H Q => ∃ (x c : V) (t : Value) (b : Bool), xs = [x, c] ∧ Paired ClsV cs us ∧ TyX K H x t ∧ PySem.W.kitAny K t us = some b ∧
  (cs = [c] ∨ ∃ tp, c = .ref tp ∧ SqT K H tp cs) ∧ Q (.bl b) H
theorem call_isiA {X : Cx} {us : List Value} {cs : List V} : CallR X (.builtin "isinstance") (rIsiA X.K us cs) := by
  intro pins s σ H xs ws Q I r h
  obtain ⟨x, c, t, b, rfl, k, ty, e, hc, q⟩ := h
  obtain ⟨u1, u2, rfl, r1, r2⟩ := vals2 r
  obtain ⟨P, Z, p, hx⟩ := kit_of I r1 ty
  rcases hc with hc | ⟨tp, rfl, hT⟩
  · subst hc
    cases k with
    | cons k1 kr =>
      cases kr
      have e2 := k1.eq r2
      subst e2
      have e1 : PySem.W.kitOne X.K t u2 = some b := by
        unfold PySem.W.kitAny at e
        cases q : PySem.W.kitOne X.K t u2 with
        | none => rw [q] at e; cases e
        | some b' =>
          rw [q] at e
          cases b' with
          | true => exact e
          | false => exact e
      exact PySem.W.kia_one Z I.kIn p e1 hx fun tk => ⟨.bl b, H, I.tok tk, rfl, q⟩
  · cases (show u2 = Value.ref tp from r2)
    obtain ⟨its, rv, ⟨⟨oc, od, dt, sl⟩, h1, h2, n, h3⟩, _⟩ := I.tuple hT
    simp only at h2 h3
    subst h2 h3
    have e3 := ClsV.all k rv
    subst e3
    exact PySem.W.kia_tup Z I.kIn p h1 e hx fun tk => ⟨.bl b, H, I.tok tk, rfl, q⟩
theorem Reps.csts {G : Gc} {O : Addr → Prop} {H : Hp} : ∀ {cs ws : List V}, Reps G O H ws (cs.map D.cst) → ws = cs
  | [], _, .nil => rfl
  | c :: cs, _, .cons h t => by cases h; rw [Reps.csts t]
section
variable {G : Gc} {us : List Value} {cs : List V} {fb : String → Option Bool} {fo : Nat → Option Bool}
theorem isiA_ok {O : Addr → Prop} {H : Hp} {v : V} {d : D} {b : Bool} (ok : IsiOk G us fb fo) (w : Vw G O H v d) (h : isiA fb fo d = some b) : ∃ t, TyX G.K H v t ∧ PySem.W.kitAny G.K t us = some b := by
  cases d with
  | ins c xs =>
    obtain ⟨C, x, e⟩ := ok.own c b h
    exact ⟨_, insX_ok x w, e⟩
  | _ =>
    unfold isiA at h
    obtain ⟨T, hT, hb⟩ := Option.bind_eq_some_iff.mp h
    exact ⟨_, tyN_ok w hT, ok.bi _ _ hb⟩
theorem sim_isi (pc : Paired ClsV cs us) (ok : IsiOk G us fb fo) : CallSim G (rIsiA G.K us cs) (gIsi cs (isiA fb fo)) := by
  intro σ Γ O H vs ds K0 Q E ww h hq
  unfold gIsi at h
  split at h
  · obtain ⟨v, u, rfl, w, w2⟩ := ww.two
    obtain ⟨hc, b, hb, hk⟩ := h
    obtain ⟨t, ty, e⟩ := isiA_ok ok w hb
    exact ⟨v, u, t, b, rfl, pc, ty, e, .inl (by rw [hc, w2.cst]), hq _ hk _ _ _ (.here E (.bl _))⟩
  · obtain ⟨v, u, rfl, w, w2⟩ := ww.two
    obtain ⟨hc, b, hb, hk⟩ := h
    obtain ⟨t, ty, e⟩ := isiA_ok ok w hb
    subst hc
    obtain ⟨tp, ws, rfl, hT, rr, _⟩ := w2.tup
    have := Reps.csts rr
    subst this
    exact ⟨v, _, t, b, rfl, pc, ty, e, .inr ⟨tp, rfl, hT⟩, hq _ hk _ _ _ (.here E (.bl _))⟩
  · exact h.elim
end
def gReprB : PCl
  | [.bl b], k => k (.sh (.str (if b then "True" else "False")))
  | _, _ => False
def rReprB : List V → Hp → VK → Prop := fun xs H Q => ∃ b, xs = [.bl b] ∧ Q (.str (if b then "True" else "False")) H
theorem call_reprB {X : Cx} : CallR X (.builtin "repr") rReprB := by
  intro pins s σ H xs ws Q I r h
  obtain ⟨b, rfl, q⟩ := h
  cases r with
  | cons r1 rr =>
    cases rr
    cases r1
    exact PySem.P.repr_of_bool ⟨.str (if b then "True" else "False"), H, I.tok _, ⟨_, rfl⟩, q⟩
theorem sim_reprB {G : Gc} : CallSim G rReprB gReprB := by
  intro σ Γ O H vs ds K0 Q E ww h hq
  unfold gReprB at h
  split at h
  · obtain ⟨v, rfl, w⟩ := ww.one
    rw [w.bl]
    exact ⟨_, rfl, hq _ h _ _ _ (.here E (.str _))⟩
  · exact h.elim
end PL

namespace PL
open PySem L2 PySem.W PySem.Spec
open PyProof.Rows (Fr)

section
variable {prog : Program} {w : World} {A : Around} {E : Value → Shared → Prop} {s : Shared} {K : Frag} {x C L f : Addr} {h₀ : Heap} {m : Str → Option Value} {ox : Obj} {od : Option Obj} {b tb : Value}
theorem ifBound_B {M : Model} {name : Str} {id : String} {args : List Value} {Q : Option Value → Shared → Prop} (X : K.In s.heap) (I : InstAt s.heap x ox C od) (hs : findIn K (.ref C) name = some (some (.builtin id)))
    (hb : ∀ self, bindSpecial (.builtin id) self = pure (.builtin id, [self])) (h : wpAny M A (call (.builtin id) (.ref x :: args)) (fun v => Q (some v)) E s) : wpAny M A (callSpecialIfBound? (.ref x) name args) Q E s := by
  simp only [callSpecialIfBound?, bindSpecialIfBound?]
  refine wpAny_holding (wpAny_bind (wpAny_bind (wpAny_bind (I.type.here ((looks_findIn X hs).here ?_)))))
  simp only [hb]
  refine wpAny_bind (wpAny_askSetting (wpAny_ite ?_))
  have fin : wpAny M A (call (.builtin id) ([.ref x] ++ args) >>= fun v => pure (some v)) Q E s := wpAny_bind (wpAny_mono h (fun v s' h' => wpAny_pure h') fun _ _ h' => h')
  split
  · exact wpAny_bind (wpAny_pure (wpAny_pure fin))
  · exact wpAny_tryCatch (wpAny_bind (wpAny_pure (wpAny_pure fin)))
/-- != by object's own, that asks the own == -/
theorem ne_K {Q : Value → Shared → Prop} (hu : A.units < cLine) (hu1 : A.in1.units < cLine) (F : Fr h₀ L s.heap m) (X₀ : K.In h₀) (I : InstAt s.heap x ox C od) (hb : Looks (model prog w) s.heap (typeOf b) tb) (hn : notFirst K C tb = true)
    (hs : findIn K (.ref C) "__ne__" = some (some (.builtin "object.__ne__"))) (hm : mroIn K C (.type "object") = some true) (hq : findIn K (.ref C) "__eq__" = some (some (.ref f))) (hf : isFn K (.ref f) = true)
    (h : wpAny (model prog w) A.in1 (call (.ref f) [.ref x, b]) (fun v s' => ∃ k, v = .bool k ∧ Q (.bool (!k)) s') E s) : wpAny (model prog w) A (richCompare .NotEq (.ref x) b) Q E s := by
  have X := X₀.keeps F.keep
  have sl := PySem.F.cmp_object.ne
  have one : wpAny (model prog w) A (tryCompare (.ref x) "__ne__" b) (fun r s' => ∃ v, r = some v ∧ Q v s') E s := by
    unfold tryCompare
    refine wpAny_bind (ifBound_B X I hs sl.bind (wpAny_call (codeAny_call_builtin sl.plain PySem.F.cmpEntry_ne (check_slot (i := "object.__ne__") (owner := "object") (n := "__ne__") PySem.F.cmpKind_ne PySem.F.cmpSplit_ne (I.type.andThen (looks_mroIn X hm)) (PySem.F.cmpArgs_ne _ _) ?_))))
    unfold Builtin.«object.__ne__»
    refine wpAny_bind (m := slotArgs "__ne__" 1 _) (wpAny_pure ?_)
    refine wpAny_bind (m := cRoomFor _ _) (wpAny_cRoomFor hu1 ?_)
    refine wpAny_bind (m := callSpecialIfBound? (.ref x) (Str.ofString "__eq__") _) (ifBound_K X I hq hf (wpAny_mono h (fun v s' hv => ?_) fun _ _ e => e))
    obtain ⟨k, rfl, hq⟩ := hv
    refine wpAny_bind (m := truthy (.bool _)) (wpAny_truthy_bool ?_)
    exact wpAny_pure (wpAny_pure ⟨_, rfl, hq⟩)
  unfold richCompare
  simp only [oneThing_ref]
  refine wpAny_holding (wpAny_bind (wpAny_cRoomFor hu ?_))
  rw [cmpInfo_NotEq]
  dsimp only
  refine wpAny_bind (I.type.here (wpAny_bind (hb.here ?_)))
  split
  · rename_i q
    have e : subIn K tb (.ref C) = some false := by
      rcases Bool.or_eq_true_iff.mp hn with e | e
      · rw [beq_iff_eq.mp e] at q; simp at q
      · exact beq_iff_eq.mp e
    refine wpAny_bind ((looks_subIn X e).here ?_)
    simp only [Bool.false_eq_true, if_false]
    refine wpAny_bind (wpAny_mono one (fun r s' z => ?_) fun _ _ e => e)
    obtain ⟨v, rfl, hq⟩ := z
    exact wpAny_pure hq
  · refine wpAny_bind (wpAny_pure ?_)
    simp only [Bool.false_eq_true, if_false]
    refine wpAny_bind (wpAny_mono one (fun r s' z => ?_) fun _ _ e => e)
    obtain ⟨v, rfl, hq⟩ := z
    exact wpAny_pure hq
end
section
variable {X : Cx} {k : Nat} {f C : Addr} {fd : FuncData} {ps : List Str} {sp : Sp} {E : XK}
/-- a call of a def somewhere below the running body -/
theorem own_call {CX : CXT} {A : Around} {pins : List (Addr × Obj)} {s : Shared} {σ : L2.St} {H : Hp} {vs : List V} {us : List Value} {Q : VK} (F : FnOk X.prog X.w X.K X.mg X.base CX k f fd ps sp) (sb : Sub X k A) (hb : Binds X.K fd ps []) (hx : Passes CX X E)
    (I : Inv X pins σ H s) (r : Vals vs us) (h : sp vs H Q E) : wpAny (model X.prog X.w) A (call (.ref f) us) (EP X pins σ Q) X.xe s := by
  have e0 : Env0 X.prog X.w X.K X.mg X.base A X.stack s H := by
    have e := I.env0
    exact ⟨by rw [sb.fr]; exact e.frames, e.mod, e.bs, e.bsz, e.funs, e.frf, e.hok, e.bare⟩
  have hl := F.len _ _ _ _ h
  refine wpAny_call (codeAny_mono (F.run A X.stack s H ⟨us, []⟩ us vs Q E sb.room e0 (by
    have := hb s us I.kIn (by rw [List.append_nil, ← r.length]; exact hl)
    simpa using this) r h) fun r s' hq => ?_)
  cases r with
  | error e => exact hx pins σ H s e s' I hq
  | ok fl =>
    cases fl with
    | ret w => exact I.after hq
    | next => exact False.elim hq
    | brk => exact False.elim hq
    | cont => exact False.elim hq
end
/-- == by the own __eq__ at f of the class at C -/
structure EqA (X : Cx) (c : Nat) (C f : Addr) : Prop where
  mg : X.mg (ct c).1 = some (.ref C)
  eq : findIn X.K (.ref C) "__eq__" = some (some (.ref f))
  fn : isFn X.K (.ref f) = true
  ne : findIn X.K (.ref C) "__ne__" = some (some (.builtin "object.__ne__"))
  hm : mroIn X.K C (.type "object") = some true
def rOwn (K : Frag) (C : Addr) (sp : Sp) (E : XK) (neg : Bool) : R2 := fun x y H Q => ∃ (a b C' dx dy : Addr) (fs gs : List (Str × V)), x = .ref a ∧ y = .ref b ∧ H a = some (.ins C dx fs) ∧ H b = some (.ins C' dy gs) ∧ notFirst K C (.ref C') = true ∧
  sp [x, y] H (fun v H' => ∃ k, v = .bl k ∧ Q (.bl (k != neg)) H') E
section
variable {X : Cx} {k n : Nat} {f C : Addr} {fd : FuncData} {ps : List Str} {sp : Sp} {E : XK} {CX : CXT} {c : Nat}
theorem op_ownEq (M : EqA X c C f) (F : FnOk X.prog X.w X.K X.mg X.base CX k f fd ps sp) (hr : Room k X.A) (hb : Binds X.K fd ps []) (hx : Passes CX X E) : OpR X (compareOp .Eq) (rOwn X.K C sp E false) := by
  intro pins s σ H x y v u Q I rx ry h
  obtain ⟨a, b, C', dx, dy, fs, gs, rfl, rfl, ha, hb', hn, hq⟩ := h
  cases rx
  cases ry
  obtain ⟨mA, J, _⟩ := ins_get I.hok ha
  obtain ⟨mB, J', _⟩ := ins_get I.hok hb'
  obtain ⟨od, J, _⟩ := J.look
  obtain ⟨od', J', _⟩ := J'.look
  obtain ⟨m, hF⟩ := I.fr
  show wpAny (model X.prog X.w) X.A (richCompare .Eq _ _) (EP X pins σ Q) X.xe s
  refine PySem.W.cmp_K (op := .Eq) (tb := .ref C') hr.units0 hF I.ok.mod.kin J J'.type hn M.eq M.fn (wpAny_mono (own_call F ⟨hr, rfl⟩ hb hx I (Paired.cons (show RelV (V.ref a) (Value.ref a) from rfl) (Paired.cons (show RelV (V.ref b) (Value.ref b) from rfl) Paired.nil)) hq) (fun v s' z => ?_) fun _ _ e => e)
  obtain ⟨v', H', I', rv, k, ev, q⟩ := z
  subst ev
  cases rv
  rw [show (k != false) = k from by cases k <;> rfl] at q
  exact ⟨.bl k, H', I', rfl, q⟩
theorem op_ownNe (M : EqA X c C f) (F : FnOk X.prog X.w X.K X.mg X.base CX k f fd ps sp) (hr : Room (k + 1) X.A) (hb : Binds X.K fd ps []) (hx : Passes CX X E) : OpR X (compareOp .NotEq) (rOwn X.K C sp E true) := by
  intro pins s σ H x y v u Q I rx ry h
  obtain ⟨a, b, C', dx, dy, fs, gs, rfl, rfl, ha, hb', hn, hq⟩ := h
  cases rx
  cases ry
  obtain ⟨mA, J, _⟩ := ins_get I.hok ha
  obtain ⟨mB, J', _⟩ := ins_get I.hok hb'
  obtain ⟨od, J, _⟩ := J.look
  obtain ⟨od', J', _⟩ := J'.look
  obtain ⟨m, hF⟩ := I.fr
  have hr1 : Sub X k X.A.in1 := Sub.in1 ⟨hr, rfl⟩
  show wpAny (model X.prog X.w) X.A (richCompare .NotEq _ _) (EP X pins σ Q) X.xe s
  refine ne_K (tb := .ref C') hr.units0 hr1.room.units0 hF I.ok.mod.kin J J'.type hn M.ne M.hm M.eq M.fn (wpAny_mono (own_call F hr1 hb hx I (Paired.cons (show RelV (V.ref a) (Value.ref a) from rfl) (Paired.cons (show RelV (V.ref b) (Value.ref b) from rfl) Paired.nil)) hq) (fun v s' z => ?_) fun _ _ e => e)
  obtain ⟨v', H', I', rv, k, ev, q⟩ := z
  subst ev
  cases rv
  rw [show (k != true) = !k from by cases k <;> rfl] at q
  exact ⟨k, rfl, .bl (!k), H', I', rfl, q⟩
end
/-- the classes of the other operand -/
def insIn (g : Nat → Bool) : D → Prop
  | .ins c _ => g c = true
  | _ => False
def pOwn (c : Nat) (g : Nat → Bool) (neg : Bool) (φ : PCt) (ta tb : PEt) : PEt := fun Γ Q => ta Γ fun r1 Γ1 => tb Γ1 fun r2 Γ2 => wd Γ2 (unfr r1) fun d => wd Γ2 (unfr r2) fun e => isIns c d ∧ insIn g e ∧
  callK false φ [unfr r1, unfr r2] Γ2 fun r Γ3 => asB r fun b => Q (.sh (.bl (b != neg))) Γ3
def NfA (X : Cx) (C : Addr) (g : Nat → Bool) : Prop := ∀ c', g c' = true → ∃ C', X.mg (ct c').1 = some (.ref C') ∧ notFirst X.K C (.ref C') = true
section
variable {X : Cx} {k : Nat} {f C : Addr} {fd : FuncData} {ps : List Str} {c : Nat} {φ : PCt} {g : Nat → Bool} {ta tb : PEt} {a b : Expr} {pos : Pos} {neg : Bool}
theorem lift_own (M : EqA X c C f) (nf : NfA X C g) : ∀ σ H Q, lift (gc X) (pOwn c g neg φ ta tb) σ H Q → tOp (rOwn X.K C (spOf (gc X) 2 false φ) E0 neg) (lift (gc X) ta) (lift (gc X) tb) σ H Q := by
  intro σ H Q ⟨O, Γ, Q0, E, ht, hq⟩
  refine ⟨O, Γ, _, E, ht, fun r1 Γ1 k1 v1 H1 O1 p1 => ?_⟩
  obtain ⟨O1', q1⟩ := p1.unfr E
  refine ⟨O1', Γ1, _, q1.env, k1, fun r2 Γ2 k2 v2 H2 O2 p2 => ?_⟩
  obtain ⟨O2', q2⟩ := p2.unfr q1.env
  have h1 : Held (gc X) O2' H2 σ Γ2 v1 (unfr r1) := q1.held.frm q1.env q2.frm
  obtain ⟨d, kd, w1⟩ := h1.wd q2.env k2
  obtain ⟨e, ⟨i1, i2, kc⟩, w2⟩ := q2.held.wd q2.env kd
  obtain ⟨x, C0, dx, fvs, ds, rfl, hc, hx, hk⟩ := isIns_ok w1 i1
  have hC : C0 = C := by
    have z := (show X.mg (ct c).1 = some (.ref C0) from hc).symm.trans M.mg
    cases z; rfl
  subst hC
  unfold insIn at i2
  split at i2
  · rename_i c' xs
    obtain ⟨y, C', dy, gvs, rfl, hc', hy, _⟩ := w2.ins
    obtain ⟨C2, hm2, hn2⟩ := nf c' i2
    have hC2 : C' = C2 := by
      have z := (show X.mg (ct c').1 = some (.ref C') from hc').symm.trans hm2
      cases z; rfl
    subst hC2
    refine ⟨x, y, C', dx, dy, fvs, gvs, rfl, rfl, hx, hy, hn2, ?_⟩
    refine callK_ok q2.env (.cons h1 (.cons q2.held .nil)) (fun r hr d => ?_) rfl kc fun r Γ' k v H' O' p4 => ?_
    · rcases List.mem_cons.mp hr with z | z
      · rw [z]; exact unfr_nofr r1 d
      · rcases List.mem_cons.mp z with z | z
        · rw [z]; exact unfr_nofr r2 d
        · cases z
    · obtain ⟨bb, rfl, rfl, kb⟩ := asB_held p4.held k
      exact ⟨bb, rfl, hq _ Γ' kb _ H' O' (.after E (q1.t.trans E q2.t) ⟨p4.frm, p4.env, .bl _, fun _ _ e => by cases e⟩)⟩
  · exact i2.elim
end
section
variable {X : Cx} {k : Nat} {f C : Addr} {fd : FuncData} {ps : List Str} {c : Nat} {φ : PCt} {g : Nat → Bool} {ta tb : PEt} {a b : Expr} {pos : Pos}
theorem qe_ownEq (M : EqA X c C f) (nf : NfA X C g) (F : FnOk X.prog X.w X.K X.mg X.base CX0 k f fd ps (spOf (gc X) 2 false φ)) (hr : Room k X.A) (hb : Binds X.K fd ps []) (ha : QE X a ta) (hb' : QE X b tb) : QE X (.Compare a [.Eq] [b] pos) (pOwn c g false φ ta tb) :=
  PE.weak (pe_cmpR (op_ownEq M F hr hb pass0) ha hb' (nomark _)) (lift_own M nf)
theorem qe_ownNe (M : EqA X c C f) (nf : NfA X C g) (F : FnOk X.prog X.w X.K X.mg X.base CX0 k f fd ps (spOf (gc X) 2 false φ)) (hr : Room (k + 1) X.A) (hb : Binds X.K fd ps []) (ha : QE X a ta) (hb' : QE X b tb) : QE X (.Compare a [.NotEq] [b] pos) (pOwn c g true φ ta tb) :=
  PE.weak (pe_cmpR (op_ownNe M F hr hb pass0) ha hb' (nomark _)) (lift_own M nf)
end
end PL

namespace PL
open PySem L2 PySem.Spec

set_option maxHeartbeats 1000000 in
theorem meets_enum1 {v : Value} {o : Obj} {H : Heap → Prop} (B : Begins v o H) :
    Meets (Builtin.«enumerate.__new__» ⟨[.type "enumerate", v], []⟩) (fun _ R s => H s.heap ∧
      R (.ok (.ret (.ref (s.heap.push o).objs.size))) { s with heap := (s.heap.push o).push { cls := .type "enumerate", data := .fields #[.none, .bool false, .ref s.heap.objs.size, rawInt 0, .none, .none] } }) :=
  .of_wp fun prog w A R s h => by
    obtain ⟨hp, g, d, tk, os⟩ := s; obtain ⟨h1, h⟩ := h
    have hsub := sub_enumerate
    have q1 : ∀ {A' : Around} {E : Value → Shared → Prop} {Q : Value → Shared → Prop}, Q (.ref hp.objs.size) ⟨hp.push o, g, d, tk, os⟩ → wpAny (model prog w) A' (pyIter v) Q E ⟨hp, g, d, tk, os⟩ :=
      fun q => B.iter prog w _ _ ⟨hp, g, d, tk, os⟩ _ h1 q
    wp_walk using q1
    refine wpAny_stack_any fun st => wpAny_pure ?_
    split
    · rename_i c _ _ _ _ _
      cases (c == Value.type "enumerate")
      · wp_walk using q1
        exact ⟨_, rfl, h⟩
      · wp_walk using q1
        exact ⟨_, rfl, h⟩
    · wp_walk using q1
      exact ⟨_, rfl, h⟩
theorem enum1 {prog : Program} {w : World} {A : Around} {E : Value → Shared → Prop} {s : Shared} {v : Value} {o : Obj} {H : Heap → Prop} {Q : Value → Shared → Prop} (B : Begins v o H) (h1 : H s.heap)
    (h : ∀ h', IsEnum h' (s.heap.objs.size + 1) s.heap.objs.size 0 .none → h'.get? s.heap.objs.size = some o → h'.objs.size = s.heap.objs.size + 2 →
      (∀ b o, s.heap.get? b = some o → h'.get? b = some o) → Q (.ref (s.heap.objs.size + 1)) { s with heap := h' }) :
    wpAny (model prog w) A (call (.type "enumerate") [v]) Q E s := by
  refine callType_new F.called_enumerate (by decide) (F.typeCall_enumerate_1 _) (F.newCall_enumerate_1 _) (fun obj => F.args_object_init_2 obj _) F.entry_enumerate_new
    (meets_enum1 B) ⟨h1, ?_⟩
  have hz : (s.heap.push o).objs.size = s.heap.objs.size + 1 := Heap.size_push ..
  show _ ∧ _
  rw [hz]
  have he : IsEnum ((s.heap.push o).push { cls := .type "enumerate", data := .fields #[.none, .bool false, .ref s.heap.objs.size, rawInt 0, .none, .none] }) (s.heap.objs.size + 1) s.heap.objs.size 0 .none := by
    have := Heap.get?_push_size (s.heap.push o) (o := { cls := .type "enumerate", data := .fields #[.none, .bool false, .ref s.heap.objs.size, rawInt 0, .none, .none] }) rfl
    rw [hz] at this; exact this
  refine ⟨⟨_, he, rfl⟩, h _ he (Heap.get?_push_of_some _ (Heap.get?_push_size _ B.free)) (by rw [Heap.size_push, hz]) fun b o x => Heap.get?_push_of_some _ (Heap.get?_push_of_some _ x)⟩

section
variable {prog : Program} {w : World} {A : Around} {E : Value → Shared → Prop} {s : Shared}
theorem enum_endT {e it l : Addr} {i : Nat} {items : Array Value} {old : Value} {Q : Option Value → Shared → Prop} (hh : A.handled = none)
    (he : IsEnum s.heap e it i old) (hit : s.heap.IsTupleIter it l i) (hl : s.heap.IsTuple l items) (hx : items[i]? = none)
    (hQ : ∀ h', Heap.ExtBut it s.heap h' → Q none { s with heap := h' }) : wpAny (model prog w) A (pyNext (.ref e)) Q E s := by
  have hT : s.TypeIs (.ref e) "enumerate" := ⟨_, he, rfl⟩
  unfold pyNext
  refine wpAny_bind (wpAny_attempt (wpAny_callSpecial?_slot (name := Str.ofString "__next__") hT F.slot_enumerate_next
    (wpAny_call_entry F.slot_enumerate_next hT F.entry_enumerate_next ?_ (F.args_enumerate_next_1 _))))
  show wpAny _ _ (field (.ref e) 2 >>= _) _ _ _
  refine wpAny_bind (wpAny_field he rfl (x := .ref it) rfl ?_)
  refine wpAny_bind (wpAny_nextOf_tuple_end (show A.in1.handled = none from hh) hit hl hx fun h' x he' hx' => ?_)
  obtain ⟨o, ho, hc⟩ := hx'
  refine wpAny_bind (wpAny_isInstance (T := "StopIteration") (b := true) ⟨o, ho, hc⟩ isSubtype_stop ?_)
  exact wpAny_pure (hQ _ he')
end
/-- the tuple at a, each item in a new pair -/
def Iet (K : PySem.W.Frag) (a : Addr) : It :=
  ⟨fun i H => ∃ (xs : List V) (x : V), SqT K H a xs ∧ xs[i]? = some x, fun i H v H' => ∃ T x, v = .ref T ∧ H T = none ∧ H' = upd H T (.tup [.int (i : Nat), x]) ∧ ∀ xs, SqT K H a xs → xs[i]? = some x, fun i H => ∃ xs : List V, SqT K H a xs ∧ xs.length ≤ i⟩
theorem enum_not_tup {h : Heap} {e it a : Addr} {i : Int} {old : Value} {its : Array Value} (he : IsEnum h e it i old) (p : h.IsTuple a its) : e ≠ a := by
  rintro rfl
  obtain ⟨o, ho, hc, _⟩ := p
  have he' : h.get? e = some _ := he
  rw [ho] at he'
  cases he'
  have : ("enumerate" : String) = "tuple" := by injection (show Value.type "enumerate" = Value.type "tuple" from hc)
  exact absurd this (by decide)
theorem turn_enumT {P : Program} {w : World} {K : PySem.W.Frag} {elts : List Expr} {kk : Nat} {tpos : Pos} (a e it : Addr) :
    Turn P w K (.Tuple elts kk tpos) (Iet K a) [e, it] e (fun i h => (∃ old, IsEnum h e it ((i : Nat) : Int) old) ∧ h.IsTupleIter it a i ∧ e ≠ it ∧ a ≠ it) where
  mem := by simp
  obj := fun i h st b hb => by
    obtain ⟨⟨old, he⟩, ⟨o, ho, hc, hd⟩, _⟩ := st
    have e' : b = e ∨ b = it := by simpa using hb
    rcases e' with z | z
    · rw [z]; exact ⟨_, he, fun v q => nomatch q⟩
    · rw [z]; exact ⟨o, ho, fun v q => by rw [hd] at q; cases q⟩
  keep := fun i h h' st k => let ⟨⟨old, he⟩, hi, hne⟩ := st; ⟨⟨old, k e (by simp) _ he⟩, hi.at fun o q => k it (by simp) o q, hne⟩
  item := by
    intro X hP hw hK hc i pins s σ H E I hf st hg
    subst hP hw hK
    obtain ⟨⟨old, he⟩, hit, hne, hai⟩ := st
    obtain ⟨xs, x, hq, hx⟩ := hg
    obtain ⟨its, rv, p, hz⟩ := I.tuple hq
    have p : s.heap.IsTuple a its.toArray := p
    obtain ⟨u, hu, ru⟩ := rv.get hx
    have hel : e < s.heap.objs.size := Heap.lt_size he
    have hil : it < s.heap.objs.size := by obtain ⟨_, q, _⟩ := hit; exact Heap.lt_size q
    have hlt : i < its.toArray.size := by
      have := (List.getElem?_eq_some_iff.mp hu).1
      simpa using this
    have hD : Draws X.prog X.w X.A.in1 it [it, a] its.toArray.size (fun i v => its.toArray[i]? = some v) (fun i h => h.IsTupleIter it a i ∧ h.IsTuple a its.toArray) := Draws.tuple (A := X.A.in1) (show X.A.in1.handled = none from I.ok.hd hc) it a hai its.toArray
    have hea : e ≠ a := enum_not_tup he p
    refine wpAny_pyNext_enum_itemC hD he ⟨hit, p⟩ hlt hne (by simp [hne, hea]) fun u' h' tk hu' ho hst hT hsz hk => ?_
    have eu : u' = u := by
      have hu2 : its[i]? = some u' := by simpa using hu'
      rw [hu2] at hu; exact Option.some.inj hu
    subst eu
    refine ⟨_, rfl, wpAny_letOwnedTupleGo_enum (s := { s with heap := h', toks := tk + 1 }) ho fun h'' he' sb => ?_⟩
    have hT2 : h''.get? s.heap.objs.size = some { cls := .type "tuple", data := .seq #[.int i tk, u'] } := (sb.2 _ (Nat.ne_of_gt hel)).trans hT
    have new : ObjOk X.prog X.w (upd H s.heap.objs.size (.tup [.int (i : Nat), x])) h'' s.heap.objs.size (.tup [.int (i : Nat), x]) :=
      ⟨by show 2 ≤ sizeLine; decide, [.int i tk, u'], .cons ⟨_, rfl⟩ (.cons ru .nil), ⟨_, hT2, rfl, _, rfl⟩⟩
    have I1 : Inv X pins σ (upd H s.heap.objs.size (.tup [.int (i : Nat), x])) { s with heap := h'', toks := tk + 1 } :=
      I.turnedNew (ch := [e, it]) (fun b ob hb q => (sb.2 b (fun z => hb (by simp [z]))).trans (hk b ob (fun z => hb (by simp [z])) (fun z => hb (by simp [z])) q)) hf (Nat.le_refl _) new
    refine ⟨.ref s.heap.objs.size, _, I1, rfl, ⟨_, x, rfl, I.hok.fresh (Nat.le_refl _), rfl, fun ys hy => by rw [I.tuple_inj hy hq]; exact hx⟩, ⟨⟨u', ?_⟩, hst.1.at fun o q => (sb.2 it (Ne.symm hne)).trans q, hne, hai⟩, fun b hb => ?_⟩
    · have e1 : ((i + 1 : Nat) : Int) = (i : Int) + 1 := by omega
      rw [e1]; exact he'
    · have hb' : b < s.heap.objs.size := by
        have e' : b = e ∨ b = it := by simpa using hb
        rcases e' with z | z
        · rw [z]; exact hel
        · rw [z]; exact hil
      rw [upd_ne (Nat.ne_of_lt hb')]
      exact (hf b hb).1
  done := by
    intro X hP hw hK hc i pins s σ H E I hf st hg
    subst hP hw hK
    obtain ⟨⟨old, he⟩, hit, hne, hai⟩ := st
    obtain ⟨xs, hq, hx⟩ := hg
    obtain ⟨its, rv, p, hz⟩ := I.tuple hq
    have p : s.heap.IsTuple a its.toArray := p
    obtain ⟨f0, f1, f2, f3, f4, f5⟩ := hf it (by simp)
    have hl := rv.length
    exact enum_endT (I.ok.hd hc) he hit p (by simp; omega) fun h' eb => ⟨rfl, I.turned (t' := s.toks) (fun b o hb e => eb b o hb e) f0 f1 f3 f4 f5⟩
  self := fun A i s Q E st h => let ⟨⟨_, he⟩, _⟩ := st; wpAny_pyIter_enum he h
/-- enumerate of a list or a tuple -/
def iEnumA (K : PySem.W.Frag) (ta : TA) : TI := fun σ H R => ta σ H fun vs H1 => ∃ a, vs = [.ref a] ∧ (((∃ xs, SqL K H1 a xs) ∧ R (Ite K a) H1) ∨ ((∃ xs, SqT K H1 a xs) ∧ R (Iet K a) H1))
theorem pi_enumA {X : Cx} {e : Expr} {ta : TA} {p pos tpos : Pos} {elts : List Expr} {kk : Nat} (hg : Gl X "enumerate") (hm : X.mg "enumerate" = none) (ha : PA X [e] ta) (hs : starEach [e] X.env = [(false, eval e X.env)] := by rfl) :
    PI X (.Tuple elts kk tpos) (.Call (.Name "enumerate" p) [e] [] pos) (iEnumA X.K ta) := by
  refine ⟨fun pins s σ H R I h => ?_⟩
  refine PyProof.Rows.Call_ (ld_blt I hg hm PyProof.Rows.boot_enumerate (PyProof.Rows.callWith_type1 (thn (ha.run pos pins s σ H _ I h) fun us s1 ⟨vs, H1, I1, r1, q1⟩ => ?_) hs rfl))
  obtain ⟨a, ex, q⟩ := q1
  subst ex
  cases r1 with
  | cons r rr =>
    cases rr
    cases r
    have young : ∀ b ∈ [s1.heap.objs.size + 1, s1.heap.objs.size], s1.heap.objs.size ≤ b := fun b hb => by
      have e' : b = s1.heap.objs.size + 1 ∨ b = s1.heap.objs.size := by simpa using hb
      rcases e' with z | z
      · rw [z]; exact Nat.le_add_right _ _
      · rw [z]; exact Nat.le_refl _
    rcases q with ⟨⟨xs, hq⟩, q⟩ | ⟨⟨xs, hq⟩, q⟩
    · obtain ⟨its, rv, p', hz⟩ := I1.list hq
      refine call_enumerate_list p'.isList fun h' he hit hsz hk => wpAny_pyIter_enum he ?_
      have I2 : Inv X pins σ H1 { s1 with heap := h' } := I1.kept (t' := s1.toks) hk
      exact ⟨s1.heap.objs.size + 1, [s1.heap.objs.size + 1, s1.heap.objs.size], _, _, H1, rfl, I2, turn_enum a (s1.heap.objs.size + 1) s1.heap.objs.size, ⟨⟨.none, he⟩, hit, Nat.succ_ne_self _⟩, fun b hb => I1.fpOk (young b hb) (I1.hok.fresh (young b hb)), q⟩
    · obtain ⟨its, rv, p', hz⟩ := I1.tuple hq
      have p' : s1.heap.IsTuple a its.toArray := p'
      have hal : a < s1.heap.objs.size := by obtain ⟨o, ho, _⟩ := p'; exact Heap.lt_size ho
      refine enum1 (begins_tuple a its.toArray) p' fun h' he hit hsz hk => wpAny_pyIter_enum he ?_
      have I2 : Inv X pins σ H1 { s1 with heap := h' } := I1.kept (t' := s1.toks) hk
      exact ⟨s1.heap.objs.size + 1, [s1.heap.objs.size + 1, s1.heap.objs.size], _, _, H1, rfl, I2, turn_enumT a (s1.heap.objs.size + 1) s1.heap.objs.size, ⟨⟨.none, he⟩, ⟨_, hit, rfl, rfl⟩, Nat.succ_ne_self _, Nat.ne_of_lt hal⟩, fun b hb => I1.fpOk (young b hb) (I1.hok.fresh (young b hb)), q⟩
/-- the pairs -/
def enumD : Nat → List D → List D
  | _, [] => []
  | n, d :: ds => .tup [.int n, d] :: enumD (n + 1) ds
theorem enumD_get : ∀ {ds : List D} {n i : Nat} {x : D}, (enumD n ds)[i]? = some x → ∃ d, ds[i]? = some d ∧ x = .tup [.int ((n + i : Nat) : Int), d]
  | [], _, _, _, h => by simp [enumD] at h
  | d :: ds, n, 0, x, h => by simp [enumD] at h; exact ⟨d, rfl, h.symm⟩
  | d :: ds, n, i + 1, x, h => by
    have h : (enumD (n + 1) ds)[i]? = some x := by simpa [enumD] using h
    obtain ⟨e, he, hx⟩ := enumD_get h
    exact ⟨e, by simpa using he, by rw [hx]; congr 4; omega⟩
theorem enumD_len : ∀ {ds : List D} {n : Nat}, (enumD n ds).length = ds.length
  | [], _ => rfl
  | _ :: ds, n => by rw [enumD, List.length_cons, enumD_len, List.length_cons]
section
variable {G : Gc} {O : Addr → Prop} {H : Hp} {a : Addr}
theorem jw_enumL {vs : List V} {xs : List D} (ho : ¬ O a) (ha : H a = some (.lst vs)) (r : Reps G O H vs xs) : JW G (Ite G.K a) (enumD 0 xs) O H := fun O' H' k => by
  have hl := k.at_ _ _ ha ho
  refine ⟨fun i x e => ?_, ⟨vs, .of hl, by rw [r.length, enumD_len]; exact Nat.le_refl _⟩⟩
  obtain ⟨d, ed, rfl⟩ := enumD_get e
  obtain ⟨v, ev, rv⟩ := r.get ed
  refine ⟨⟨vs, v, .of hl, ev⟩, fun u H'' y => .inr ?_⟩
  obtain ⟨T, x, eu, hT, eH, y⟩ := y
  have : x = v := Option.some.inj ((y vs (.of hl)).symm.trans ev)
  subst this
  exact ⟨T, _, _, hT, eH, eu, rfl, .cons (by rw [Nat.zero_add]; exact .int _) (.cons (rv.keep k) .nil)⟩
theorem jw_enumT {vs : List V} {xs : List D} (ha : TupAt G O H a vs) (r : Reps G O H vs xs) : JW G (Iet G.K a) (enumD 0 xs) O H := fun O' H' k => by
  have hl := (ha.keep k).sq
  refine ⟨fun i x e => ?_, ⟨vs, hl, by rw [r.length, enumD_len]; exact Nat.le_refl _⟩⟩
  obtain ⟨d, ed, rfl⟩ := enumD_get e
  obtain ⟨v, ev, rv⟩ := r.get ed
  refine ⟨⟨vs, v, hl, ev⟩, fun u H'' y => .inr ?_⟩
  obtain ⟨T, x, eu, hT, eH, y⟩ := y
  have : x = v := Option.some.inj ((y vs hl).symm.trans ev)
  subst this
  exact ⟨T, _, _, hT, eH, eu, rfl, .cons (by rw [Nat.zero_add]; exact .int _) (.cons (rv.keep k) .nil)⟩
end
def pEnum (ta : PAt) : PIt := fun Γ Q => ta Γ fun rs Γ1 => fzA Γ1 rs fun ds Γ2 => match ds with
  | [.lst xs] => Q (enumD 0 xs) Γ2
  | [.tup xs] => Q (enumD 0 xs) Γ2
  | _ => False
theorem qi_enum {X : Cx} {a : Expr} {t : PAt} {p pos tpos : Pos} {elts : List Expr} {kk : Nat} (hg : Gl X "enumerate") (hm : X.mg "enumerate" = none) (ha : QA' X [a] t) (hs : starEach [a] X.env = [(false, eval a X.env)] := by rfl) :
    QI X (.Tuple elts kk tpos) (.Call (.Name "enumerate" p) [a] [] pos) (pEnum t) :=
  PI.weak (pi_enumA hg hm ha hs) fun σ H R ⟨O, Γ, Q0, E, ht, hq⟩ => by
    refine ⟨O, Γ, _, E, ht, fun rs Γ1 k nf vs H1 O1 p => ?_⟩
    obtain ⟨ds, Γ2, O2, kd, p2, rr⟩ := fzA_ok p.env p.helds nf k
    split at kd
    · cases rr with
      | cons r1 rt =>
        cases rt
        cases r1 with
        | lst ho ha r => exact ⟨_, rfl, .inl ⟨⟨_, .of ha⟩, hq _ _ kd _ _ _ (p.t.trans E p2) (jw_enumL ho ha r)⟩⟩
    · cases rr with
      | cons r1 rt =>
        cases rt
        cases r1 with
        | tup ha r => exact ⟨_, rfl, .inr ⟨⟨_, ha.sq⟩, hq _ _ kd _ _ _ (p.t.trans E p2) (jw_enumT ha r)⟩⟩
    · exact kd.elim
end PL

namespace PL
open PySem L2 PySem.Spec

theorem rev_adjust (n : Nat) : Builtin.Slice.sliceAdjust none none (-1) (n : Int) = ((n : Int) - 1, -1) := by
  unfold Builtin.Slice.sliceAdjust
  simp
theorem rev_places (n : Nat) : Builtin.Slice.slicePlaces ((n : Int) - 1) (-1) (-1) = n := by
  unfold Builtin.Slice.slicePlaces
  simp
  try omega
theorem fm_congr {α β : Type} {f g : α → Option β} : ∀ {l : List α}, (∀ a ∈ l, f a = g a) → l.filterMap f = l.filterMap g
  | [], _ => rfl
  | a :: l, h => by
    rw [List.filterMap_cons, List.filterMap_cons, h a List.mem_cons_self, fm_congr fun b hb => h b (List.mem_cons_of_mem _ hb)]
theorem rev_pick (xs : Array Value) : ((List.range xs.size).filterMap fun (m : Nat) => xs[(((xs.size : Int) - 1) + (m : Int) * (-1)).toNat]?).toArray = xs.toList.reverse.toArray := by
  have h := PySem.W.krv_range xs.size
  have e : (List.range xs.size).filterMap (fun (m : Nat) => xs[(((xs.size : Int) - 1) + (m : Int) * (-1)).toNat]?) = ((List.range xs.size).map (fun k => xs.size - 1 - k)).filterMap (xs[·]?) := by
    rw [List.filterMap_map]
    refine fm_congr fun m hm => ?_
    have := List.mem_range.mp hm
    show xs[(((xs.size : Int) - 1) + (m : Int) * (-1)).toNat]? = xs[xs.size - 1 - m]?
    congr 1
    omega
  rw [e, h, List.filterMap_reverse, PySem.W.krv_all]
section
variable {prog : Program} {w : World} {A : Around} {E : Value → Shared → Prop} {s : Shared}
theorem sliceApplied_rev {sl : Addr} {vs : Value} {n : Nat} {Q : Int × Int × Nat → Shared → Prop} (hs : s.heap.IsSliceOf sl .none .none vs) (ps : IsPart vs (some (-1)))
    (h : Q ((n : Int) - 1, -1, n) s) : wpAny (model prog w) A (Builtin.Slice.sliceApplied (.ref sl) (pure (n : Int))) Q E s := by
  obtain ⟨os, hos, hcs, hds⟩ := id hs
  unfold Builtin.Slice.sliceApplied Builtin.Slice.sliceFields
  refine wpAny_bind (wpAny_bind (wpAny_field hos hds (x := .none) rfl (wpAny_bind (wpAny_field hos hds (x := .none) rfl (wpAny_bind (wpAny_field hos hds (x := vs) rfl (wpAny_pure ?_)))))))
  refine wpAny_bind (HT.slicePart_ ps ?_)
  show wpAny _ _ (if ((-1 : Int) == 0) = true then _ else _) _ _ s
  rw [if_neg (by decide)]
  refine wpAny_bind (PyProof.Rows.slicePart_none (wpAny_bind (PyProof.Rows.slicePart_none (wpAny_bind (wpAny_pure ?_)))))
  show wpAny _ _ (match Builtin.Slice.sliceAdjust none none (-1) (n : Int) with | (lo, hi) => pure (lo, (-1 : Int), Builtin.Slice.slicePlaces lo hi (-1))) _ _ s
  rw [rev_adjust n]
  show wpAny _ _ (pure (((n : Int) - 1), (-1 : Int), Builtin.Slice.slicePlaces ((n : Int) - 1) (-1) (-1))) _ _ s
  rw [rev_places]
  exact wpAny_pure h
theorem getItem_tuple_rev {t sl : Addr} {items : Array Value} {vs : Value} {Q : Value → Shared → Prop} (ht : PyProof.Rows.IsTup s.heap t items) (hs : s.heap.IsSliceOf sl .none .none vs) (ps : IsPart vs (some (-1)))
    (h : Q (.ref s.heap.objs.size) { s with heap := s.heap.push { cls := .type "tuple", data := .seq items.toList.reverse.toArray } })
    (hsz : items.size ≤ sizeLine) : wpAny (model prog w) A (getItem (.ref t) (.ref sl)) Q E s := by
  have htake : sizeOk (.seq items.toList.reverse.toArray) := by
    show items.toList.reverse.toArray.size ≤ sizeLine
    rw [List.size_toArray, List.length_reverse, Array.length_toList]
    exact hsz
  obtain ⟨os, hos, hcs, hds⟩ := id hs
  have hTs : s.TypeIs (.ref sl) "slice" := ⟨os, hos, hcs⟩
  unfold getItem
  try with_reducible refine wpAny_holding ?_
  first | refine wpAny_bind (wpAny_pure ?_) | skip
  refine wpAny_bind (wpAny_sequenceKey ht.typeIs (by decide) ?_)
  refine wpAny_bind (wpAny_callSpecial?_slot (name := Str.ofString "__getitem__") ht.typeIs PyProof.Rows.slot_tuple_getitem
    (wpAny_call_entry PyProof.Rows.slot_tuple_getitem ht.typeIs PyProof.Rows.entry_tuple_getitem ?_ (PyProof.Rows.args_tuple_getitem _ _)))
  show wpAny _ _ (Builtin.Tuple.tupleItemsOf (.ref t) >>= _) _ _ s
  refine wpAny_bind (PyProof.Rows.tupleItemsOf_ ht ?_)
  refine wpAny_bind (wpAny_typeOf hTs ?_)
  rw [if_pos (by decide)]
  refine wpAny_bind (sliceApplied_rev hs ps ?_)
  have hno : ¬ (((items.size : Int) - 1 == 0 && (-1 : Int) == 1 && items.size == items.size) = true) := by
    intro q
    rw [Bool.and_eq_true, Bool.and_eq_true] at q
    exact absurd q.1.2 (by decide)
  show wpAny _ _ (if ((items.size : Int) - 1 == 0 && (-1 : Int) == 1 && items.size == items.size) = true then _ else _) _ _ s
  rw [if_neg hno, rev_pick]
  first
    | exact wpAny_bind (m := Builtin.Tuple.tupleExact _) (wpAny_newObj_type (wpAny_pure ⟨_, rfl, wpAny_pure h⟩) htake)
    | exact wpAny_bind (m := Builtin.Tuple.tupleExact _) (wpAny_newObj_type (wpAny_bind (wpAny_pure (wpAny_pure ⟨_, rfl, wpAny_pure h⟩))) htake)
    | exact wpAny_bind (wpAny_bind (m := Builtin.Tuple.tupleExact _) (wpAny_newObj_type (wpAny_pure (wpAny_pure ⟨_, rfl, wpAny_pure h⟩)) htake))
    | exact wpAny_bind (wpAny_bind (m := Builtin.Tuple.tupleExact _) (wpAny_newObj_type (wpAny_pure ⟨_, rfl, wpAny_pure h⟩) htake))
end
/-- xs[::-1] of a list or a tuple -/
def tRevA (K : PySem.W.Frag) (te : TE) : TE := fun σ H Q => te σ H fun x H1 => ∃ a xs, x = .ref a ∧ ((SqL K H1 a xs ∧ ∀ p, H1 p = none → Q (.ref p) (upd H1 p (.lst xs.reverse))) ∨ (SqT K H1 a xs ∧ ∀ p, H1 p = none → Q (.ref p) (upd H1 p (.tup xs.reverse))))
theorem pe_revA {X : Cx} {e : Expr} {te : TE} {k : Nat} {p1 p2 p3 pos : Pos} (he : PE X e te) : PE X (.Subscript e (.Slice none none (some (.UnaryOp .USub (.Constant (.int 1) k p1) p2)) p3) pos) (tRevA X.K te) := by
  refine ⟨fun pins s σ H Q I h => ?_⟩
  refine PyProof.Rows.Subscript_ (thn (he.run pins s σ H _ I h) fun v s1 ⟨x, H1, I1, r1, q1⟩ => ?_)
  obtain ⟨a, xs, ex, hq⟩ := q1
  subst ex
  cases r1
  have hst : PO X (some (.UnaryOp .USub (.Constant (.int 1) k p1) p2)) (tPart (tUn (rU fun i => .int (-i)) (tC (.int 1)))) := po_some (pe_un un_neg pe_int)
  refine wpAny_Slice (thn (po_none.run pins s1 σ H1 (fun o H2 => o = none ∧ H2 = H1) I1 ⟨rfl, rfl⟩) fun vl s2 ⟨l, H2, I2, pl, el, e2⟩ => ?_)
  subst el e2
  refine thn (po_none.run pins s2 σ H2 (fun o H3 => o = none ∧ H3 = H2) I2 ⟨rfl, rfl⟩) fun vu s3 ⟨u, H3, I3, pu, eu, e3⟩ => ?_
  subst eu e3
  refine thn (hst.run pins s3 σ H3 (fun o H4 => o = some (-1) ∧ H4 = H3) I3 ⟨1, rfl, -1, rfl, rfl, rfl⟩) fun vs s4 ⟨o, H4, I4, ps, eo, e4⟩ => ?_
  subst eo e4
  have I5 : Inv X pins σ H4 { s4 with heap := s4.heap.push { cls := .type "slice", data := .fields #[vl, vu, vs] } } := I4.kept (t' := s4.toks) fun b ob q => Heap.get?_push_of_some _ q
  show wpAny (model X.prog X.w) X.A (PyProof.Rows.subscriptTail e (.Slice none none (some (.UnaryOp .USub (.Constant (.int 1) k p1) p2)) p3) (.ref a) (.ref s4.heap.objs.size)) (EP X pins σ Q) X.xe { s4 with heap := s4.heap.push { cls := .type "slice", data := .fields #[vl, vu, vs] } }
  rcases hq with ⟨hx, q⟩ | ⟨hx, q⟩
  · obtain ⟨its, r, ht, hz⟩ := I5.list hx
    have hlen := r.length
    refine PyProof.Rows.tail_any (ops := [.ref a, .ref s4.heap.objs.size]) ht.isList.typeIs (PySem.slot_list_getitem.lookup) ?_ (by with_unfolding_all rfl)
    refine wpAny_getItem_list_slice ht.isList (Heap.IsSliceOf.new _ vl vu vs) pl pu ps (by decide) ?_ (by rw [List.size_toArray]; omega)
    rw [PySem.W.krv_pick]
    refine ⟨.ref _, _, I5.laid (t' := s4.toks) (o := .lst xs.reverse) (fun b ob q => Heap.get?_push_of_some _ q) (Nat.le_refl _) ?_, rfl, q _ (I5.hok.fresh (Nat.le_refl _))⟩
    exact ⟨by rw [List.length_reverse]; exact hz, _, 0, r.reverse, Heap.get?_push_size _ rfl⟩
  · obtain ⟨its, r, ht, hz⟩ := I5.tuple hx
    have hlen := r.length
    refine PyProof.Rows.tail_any (ops := [.ref a, .ref s4.heap.objs.size]) ht.typeIs PyProof.Rows.slot_tuple_getitem.lookup ?_ (by with_unfolding_all rfl)
    cases pl
    cases pu
    refine getItem_tuple_rev ht (Heap.IsSliceOf.new _ .none .none vs) ps ?_ (by rw [List.size_toArray]; omega)
    refine ⟨.ref _, _, I5.laid (t' := s4.toks) (o := .tup xs.reverse) (fun b ob q => Heap.get?_push_of_some _ q) (Nat.le_refl _) ?_, rfl, q _ (I5.hok.fresh (Nat.le_refl _))⟩
    exact ⟨by rw [List.length_reverse]; exact hz, _, r.reverse, PyProof.Rows.IsTup.new _ _⟩
def pRev (te : PEt) : PEt := fun Γ Q => te Γ fun r Γ1 => wd Γ1 r fun d => match d with
  | .lst xs => Q (.fr (.lst xs.reverse)) Γ1
  | .tup xs => Q (.sh (.tup xs.reverse)) Γ1
  | _ => False
theorem qe_rev {X : Cx} {e : Expr} {ta : PEt} {k : Nat} {p1 p2 p3 pos : Pos} (he : QE X e ta) : QE X (.Subscript e (.Slice none none (some (.UnaryOp .USub (.Constant (.int 1) k p1) p2)) p3) pos) (pRev ta) :=
  PE.weak (pe_revA he) fun σ H Q ⟨O, Γ, Q0, E, ht, hq⟩ => by
    refine ⟨O, Γ, _, E, ht, fun r Γ1 kk v H1 O1 p => ?_⟩
    obtain ⟨d, kd, w⟩ := p.held.wd p.env kk
    split at kd
    · obtain ⟨a, vs, rfl, ha, ra⟩ := w.lst
      exact ⟨a, vs, rfl, .inl ⟨.of ha, fun q hn => hq _ _ kd _ _ _ (.after E p.t (EPost.newLst p.env hn ra.rev))⟩⟩
    · obtain ⟨a, vs, rfl, ha, ra, _⟩ := w.tup
      exact ⟨a, vs, rfl, .inr ⟨ha, fun q hn => hq _ _ kd _ _ _ (.after E p.t (EPost.newTup p.env hn ra.rev))⟩⟩
    · exact kd.elim
end PL

namespace PL
open PySem L2
open He (ga ma)

theorem lift_imp {G : Gc} {t t' : PEt} (h : ∀ Γ Q, t' Γ Q → t Γ Q) : ∀ σ H Q, lift G t' σ H Q → lift G t σ H Q := fun σ H Q ⟨O, Γ, Q0, E, ht, hq⟩ => ⟨O, Γ, Q0, E, h _ _ ht, hq⟩
theorem QE.imp {X : Cx} {e : Expr} {t t' : PEt} (q : QE X e t) (h : ∀ Γ Q, t' Γ Q → t Γ Q) : QE X e t' := PE.weak q (lift_imp h)

section
variable {P : Program} {w : World} {K : PySem.W.Frag} {mg : Str → Option Value} {base : Heap}
theorem funD_ok {x qual : Str} {params : Arguments} {body : List Stmt} {scope : Scope} {f : Addr} {fd : FuncData} {N ps : List Str} {k n : Nat} {br : Bool} {φ : PCt} (F : FunD K x qual params body scope [] [] f fd) (S : FnScope N ps scope) (hn : N.length = ps.length + n)
    (hbody : ∀ (cdv : Value) (A : Around) (outer : List Env) (s : Shared) (H : Hp) (E : XK), Room k (A.deeper (PyProof.Rows.envOfC qual scope s.heap.objs.size f cdv)) →
      ∃ t, QSs (cxOf CX0 P w K mg base N qual scope f cdv A outer s H E).nox (refB br) body t ∧ ∀ as Q0, φ as Q0 → t (fnEnds as Q0) (as ++ List.replicate n .un)) :
    FnOk P w K mg base CX0 (k + 1) f fd ps (spOf ⟨K, mg⟩ ps.length br φ) := by
  refine F.ok S (fun vs H Q E h => h.1) fun cdv A outer s H vs Q E hr h => ?_
  obtain ⟨t, ht, q⟩ := hbody cdv A outer s H E hr
  refine ⟨_, PSs.nox ht, ?_⟩
  obtain ⟨hl, O, as, Q0, En, ok, hφ, hq⟩ := h
  have hN : N.length = vs.length + n := by rw [hn, hl]
  have En' := En.enter (N := N) hN
  refine ⟨O, as ++ List.replicate n Sl.un, fnEnds as Q0, En', q as Q0 hφ, ⟨fun Γ' k σ' H' O' p => ?_, fun r Γ' k v σ' H' O' p => ?_, fun _ k => k.elim, fun _ k => k.elim⟩⟩
  · obtain ⟨b, d, as', O2, k2, e⟩ := ret_ok (v := .non) (r := .sh .non) En ok ⟨p, .non, fun _ _ e _ => by cases e⟩ k
    exact hq b d as' k2 _ _ _ e
  · obtain ⟨b, d, as', O2, k2, e⟩ := ret_ok En ok p k
    exact hq b d as' k2 _ _ _ e
end
/-- a def of the module -/
structure Cal (P : Program) (w : World) (K : PySem.W.Frag) (mg : Str → Option Value) (base : Heap) (k : Nat) (x : Str) (n : Nat) (br : Bool) (φ : PCt) : Prop where
  ex : ∃ (fd : FuncData) (ps : List Str), FnOk P w K mg base CX0 k (ga K x) fd ps (spOf ⟨K, mg⟩ n br φ) ∧ Binds K fd ps []
  at_ : mg x = some (.ref (ga K x))
  kp : PySem.W.keepIn K (.ref (ga K x)) = true
/-- .. that may be called with its last m parameters as keywords, in their order -/
structure CalK (P : Program) (w : World) (K : PySem.W.Frag) (mg : Str → Option Value) (base : Heap) (k : Nat) (x : Str) (n : Nat) (br : Bool) (φ : PCt) (ks : List Str) : Prop where
  ex : ∃ (fd : FuncData) (ps : List Str), FnOk P w K mg base CX0 k (ga K x) fd ps (spOf ⟨K, mg⟩ n br φ) ∧ KBinds K fd ps ks (fun us ws => us ++ ws) (fun vs zs => vs ++ zs)
  at_ : mg x = some (.ref (ga K x))
  kp : PySem.W.keepIn K (.ref (ga K x)) = true
/-- a method of the class numbered c -/
structure Met (P : Program) (w : World) (K : PySem.W.Frag) (mg : Str → Option Value) (base : Heap) (k : Nat) (c : Nat) (m : Str) (n : Nat) (br : Bool) (φ : PCt) : Prop where
  ex : ∃ (fd : FuncData) (ps : List Str), FnOk P w K mg base CX0 k (ma K (ga K (ct c).1) m) fd ps (spOf ⟨K, mg⟩ n br φ) ∧ Binds K fd ps []
  at_ : mg (ct c).1 = some (.ref (ga K (ct c).1))
  cl : Cls K (ga K (ct c).1)
  mt : Meth K (ga K (ct c).1) m (ma K (ga K (ct c).1) m)
  no : m ∉ (ct c).2
/-- making one: the promise of __init__ -/
structure Mak (P : Program) (w : World) (K : PySem.W.Frag) (mg : Str → Option Value) (base : Heap) (k : Nat) (c : Nat) (n : Nat) (φ : PCt) : Prop where
  ex : ∃ (fd : FuncData) (ps : List Str), FnOk P w K mg base CX0 k (ma K (ga K (ct c).1) "__init__") fd ps (spOf ⟨K, mg⟩ n true φ) ∧ Binds K fd ps []
  at_ : mg (ct c).1 = some (.ref (ga K (ct c).1))
  mkr : Mk K (ga K (ct c).1) (ma K (ga K (ct c).1) "__init__")
/-- == of the class numbered c -/
structure OEq (P : Program) (w : World) (K : PySem.W.Frag) (mg : Str → Option Value) (base : Heap) (k : Nat) (c : Nat) (φ : PCt) : Prop where
  ex : ∃ (fd : FuncData) (ps : List Str), FnOk P w K mg base CX0 k (ma K (ga K (ct c).1) "__eq__") fd ps (spOf ⟨K, mg⟩ 2 false φ) ∧ Binds K fd ps []
  at_ : mg (ct c).1 = some (.ref (ga K (ct c).1))
  eq : PySem.W.findIn K (.ref (ga K (ct c).1)) "__eq__" = some (some (.ref (ma K (ga K (ct c).1) "__eq__")))
  fn : PySem.W.isFn K (.ref (ma K (ga K (ct c).1) "__eq__")) = true
  ne : PySem.W.findIn K (.ref (ga K (ct c).1)) "__ne__" = some (some (.builtin "object.__ne__"))
  hm : PySem.W.mroIn K (ga K (ct c).1) (.type "object") = some true
section
variable {X : Cx} {k j n : Nat} {br : Bool} {φ : PCt} {x m : Str} {p pos apos kpos : Pos} {e o a b : Expr} {es : List Expr} {ta tb : PEt} {t : PAt} {c : Nat} {g : Nat → Bool} {ks : List Str}
theorem qc (C : Cal X.prog X.w X.K X.mg X.base k x n br φ) (hr : Room j X.A) (ha : QA' X (e :: es) t) (hk : k ≤ j := by decide) (hg : Gl X x := by rfl)
    (hdb : (x == ("__debug__" : Str)) = false := by decide) (he : starEach (e :: es) X.env = (false, eval e X.env) :: starEach es X.env := by rfl) (hpl : (backTo pos (starEach es X.env)).any (·.1) = false := by rfl) :
    QE X (.Call (.Name x p) (e :: es) [] pos) (pCall br φ n t) := by
  obtain ⟨fd, ps, F, B⟩ := C.ex
  exact qe_call F (hr.mono hk) hg C.at_ C.kp B ha hdb he hpl
theorem qm {pl : Sem Bool} (C : Met X.prog X.w X.K X.mg X.base k c m n br φ) (hr : Room j X.A) (ho : QE X o ta) (ha : QA' X (e :: es) t) (hk : k ≤ j := by decide)
    (hst : starEach (e :: es) X.env = (false, eval e X.env) :: starEach es X.env := by rfl) (hpl : (backTo pos (starEach es X.env)).any (·.1) = false := by rfl)
    (ht : eval (.Call (.Attribute o m apos) (e :: es) [] pos) X.env = (do
      let ov ← eval o X.env
      standAt apos.atName
      let (f, first) ← holding [ov] (getMethod ov m pl)
      callWith pos f first (backTo pos (starEach (e :: es) X.env)) (backToKw pos (keywordEach [] X.env))) := by rfl) :
    QE X (.Call (.Attribute o m apos) (e :: es) [] pos) (pMeth c br φ n ta t) := by
  obtain ⟨fd, ps, F, B⟩ := C.ex
  exact qe_meth ⟨C.at_, C.cl, C.mt, C.no⟩ F (hr.mono hk) B ho ha hst hpl ht
theorem qm0 {pl : Sem Bool} (C : Met X.prog X.w X.K X.mg X.base k c m n br φ) (hr : Room j X.A) (ho : QE X o ta) (hk : k ≤ j := by decide)
    (ht : eval (.Call (.Attribute o m apos) [] [] pos) X.env = (do
      let ov ← eval o X.env
      standAt apos.atName
      let (f, first) ← holding [ov] (getMethod ov m pl)
      callWith pos f first (backTo pos (starEach [] X.env)) (backToKw pos (keywordEach [] X.env))) := by rfl) :
    QE X (.Call (.Attribute o m apos) [] [] pos) (pMeth c br φ n ta pANil) := by
  obtain ⟨fd, ps, F, B⟩ := C.ex
  exact qe_meth0 ⟨C.at_, C.cl, C.mt, C.no⟩ F (hr.mono hk) B ho ht
theorem qmk (C : Mak X.prog X.w X.K X.mg X.base k c n φ) (hr : Room j X.A) (ha : QA' X (e :: es) t) (hx : x = (ct c).1 := by rfl) (hk : k + 1 ≤ j := by decide) (hg : Gl X x := by rfl)
    (hdb : (x == ("__debug__" : Str)) = false := by decide) (he : starEach (e :: es) X.env = (false, eval e X.env) :: starEach es X.env := by rfl) (hpl : (backTo pos (starEach es X.env)).any (·.1) = false := by rfl) :
    QE X (.Call (.Name x p) (e :: es) [] pos) (pMake c φ n t) := by
  obtain ⟨fd, ps, F, B⟩ := C.ex
  exact qe_make C.at_ C.mkr F (hr.mono hk) hg hx B ha hdb he hpl
theorem qoe (C : OEq X.prog X.w X.K X.mg X.base k c φ) (nf : NfA X (ga X.K (ct c).1) g) (hr : Room j X.A) (ha : QE X a ta) (hb : QE X b tb) (hk : k ≤ j := by decide) : QE X (.Compare a [.Eq] [b] pos) (pOwn c g false φ ta tb) := by
  obtain ⟨fd, ps, F, B⟩ := C.ex
  exact qe_ownEq ⟨C.at_, C.eq, C.fn, C.ne, C.hm⟩ nf F (hr.mono hk) B ha hb
theorem qon (C : OEq X.prog X.w X.K X.mg X.base k c φ) (nf : NfA X (ga X.K (ct c).1) g) (hr : Room j X.A) (ha : QE X a ta) (hb : QE X b tb) (hk : k + 1 ≤ j := by decide) : QE X (.Compare a [.NotEq] [b] pos) (pOwn c g true φ ta tb) := by
  obtain ⟨fd, ps, F, B⟩ := C.ex
  exact qe_ownNe ⟨C.at_, C.eq, C.fn, C.ne, C.hm⟩ nf F (hr.mono hk) B ha hb
theorem nf_self {C : OEq X.prog X.w X.K X.mg X.base k c φ} : NfA X (ga X.K (ct c).1) (fun c' => c' == c) := fun c' h => by
  rw [eq_of_beq h]
  exact ⟨_, C.at_, by simp [PySem.W.notFirst]⟩
theorem pe_callK1 {f : Addr} {fd : FuncData} {ps : List Str} {sp : Sp} {te : TE} {y : Str} {CX : CXT} {E : XK} (F : FnOk X.prog X.w X.K X.mg X.base CX k f fd ps sp) (hr : Room k X.A) (hg : Gl X x) (hm : X.mg x = some (.ref f)) (hk : PySem.W.keepIn X.K (.ref f) = true)
    (hb : KBinds X.K fd ps [y] (fun us ws => us ++ ws) (fun vs zs => vs ++ zs)) (hx : Passes CX X E) (he : PE X e te) (hdb : (x == ("__debug__" : Str)) = false := by decide) :
    PE X (.Call (.Name x p) [] [⟨some y, e, kpos⟩] pos) (fun σ H Q => te σ H fun v H1 => sp [v] H1 Q E) := by
  refine ⟨fun pins s σ H Q I h => ?_⟩
  refine wpAny_Call_Name_kw (ld_glob I hg hm ?_ hdb)
  refine PySem.W.callWith_KW0 (h₀ := X.base) I.ok.mod.kin hk rfl (thn ((pk_cons he pk_nil).run pos pins s σ H (fun zs H1 => match zs with | [v] => sp [v] H1 Q E | _ => False) I h) fun ws s2 ⟨zs, H2, I2, rz, q2⟩ => ⟨I2.kIn, ?_⟩) rfl
  dsimp only at q2
  split at q2
  · exact run_fnk (us := []) (vs := []) F hr hb hx I2 .nil rz q2
  · exact q2.elim
def pCallK1 (br : Bool) (φ : PCt) (ta : PEt) : PEt := fun Γ Q => ta Γ fun r Γ1 => callK br φ [unfr r] Γ1 Q
theorem qck {y : Str} (C : CalK X.prog X.w X.K X.mg X.base k x 1 br φ [y]) (hr : Room j X.A) (he : QE X e ta) (hk : k ≤ j := by decide) (hg : Gl X x := by rfl)
    (hdb : (x == ("__debug__" : Str)) = false := by decide) : QE X (.Call (.Name x p) [] [⟨some y, e, kpos⟩] pos) (pCallK1 br φ ta) := by
  obtain ⟨fd, ps, F, B⟩ := C.ex
  refine PE.weak (pe_callK1 (E := E0) F (hr.mono hk) hg C.at_ C.kp B pass0 he hdb) fun σ H Q ⟨O, Γ, Q0, E, ht, hq⟩ => ?_
  refine ⟨O, Γ, _, E, ht, fun r Γ1 kk v H1 O1 p => ?_⟩
  obtain ⟨O2, p2⟩ := p.unfr E
  refine callK_ok p2.env (.cons p2.held .nil) (fun r' hr' d => ?_) rfl kk fun r Γ' k v H' O' p4 => hq r Γ' k v H' O' (.after E p2.t p4)
  rcases List.mem_cons.mp hr' with z | z
  · rw [z]; exact unfr_nofr r d
  · cases z
end
structure Ty7 where
  non : Bool := false
  bl : Bool := false
  int : Bool := false
  str : Bool := false
  lst : Bool := false
  tup : Bool := false
  dct : Bool := false
def Ty7.at_ (t : Ty7) (T : String) : Option Bool := if T = "NoneType" then some t.non else if T = "bool" then some t.bl else if T = "int" then some t.int else if T = "str" then some t.str else if T = "list" then some t.lst else if T = "tuple" then some t.tup else if T = "dict" then some t.dct else none
def ans (t : Ty7) (fo : Nat → Option Bool) : D → Option Bool
  | .non => some t.non | .bl _ => some t.bl | .int _ => some t.int | .str _ => some t.str
  | .lst _ => some t.lst | .scr _ => some t.lst | .tup _ => some t.tup | .dct _ => some t.dct | .dcT _ => some t.dct
  | .ins c _ => fo c | .cst _ => none
theorem ans_isi {t : Ty7} {fo : Nat → Option Bool} {d : D} {b : Bool} (h : ans t fo d = some b) : isiA t.at_ fo d = some b := by
  cases d <;> first | exact h | (cases h)
/-- what K is asked: the classes us -/
def isiChk (K : PySem.W.Frag) (us : List Value) (t : Ty7) (fo : List (Nat × Bool)) : Bool :=
  (["NoneType", "bool", "int", "str", "list", "tuple", "dict"].all fun T => decide (PySem.W.kitAny K (.type T) us = t.at_ T)) && fo.all fun q => decide (PySem.W.kitAny K (.ref (ga K (ct q.1).1)) us = some q.2)
def clsChk (K : PySem.W.Frag) (c : Nat) : Bool :=
  (He.Fa.cls (ct c).1).ok K && decide (PySem.W.nsIn K mainGlobals (ct c).1 = some (some (.ref (ga K (ct c).1)))) && (decide (PySem.W.findIn K (.ref (ga K (ct c).1)) "__class__" = some (some (.builtin "object.__class__"))) &&
    (decide (PySem.W.specialIn K (.builtin "object.__class__") "__get__" = some (some (.builtin "getset_descriptor.__get__"))) && (decide (PySem.W.takesIn K (.builtin "object.__class__") = some true) && decide (PySem.W.mroIn K (ga K (ct c).1) (.type "object") = some true))))
section
variable {K : PySem.W.Frag} {h : Heap} {mg : Str → Option Value} {us : List Value} {t : Ty7}
theorem clsX_of (X : K.In h) (G : h.Ns mainGlobals mg) {c : Nat} (e : clsChk K c = true) : ClsX ⟨K, mg⟩ c (ga K (ct c).1) := by
  unfold clsChk at e
  simp only [Bool.and_eq_true, decide_eq_true_eq] at e
  obtain ⟨⟨e1, e2⟩, e3, e4, e5, e6⟩ := e
  exact ⟨PySem.W.mg_of X G e2, He.cls_ok e1, e3, e4, e5, e6⟩
theorem Ty7.at_mem {t : Ty7} {T : String} {b : Bool} (h : t.at_ T = some b) : T ∈ ["NoneType", "bool", "int", "str", "list", "tuple", "dict"] := by
  unfold Ty7.at_ at h
  repeat (split at h; · rename_i e; rw [e]; simp)
  cases h
theorem isi_of {fo : List (Nat × Bool)} (cl : ∀ q ∈ fo, ∃ C, ClsX ⟨K, mg⟩ q.1 C ∧ C = ga K (ct q.1).1) (e : isiChk K us t fo = true) : IsiOk ⟨K, mg⟩ us t.at_ (fun c => List.lookup c fo) := by
  unfold isiChk at e
  rw [Bool.and_eq_true] at e
  obtain ⟨e1, e2⟩ := e
  refine ⟨fun T b hb => ?_, fun c b hb => ?_⟩
  · have := List.all_eq_true.mp e1 T (Ty7.at_mem hb)
    rw [← hb]; exact of_decide_eq_true this
  · have hm : (c, b) ∈ fo := by
      clear cl e1 e2
      induction fo with
      | nil => cases hb
      | cons p r ih =>
        obtain ⟨c', b'⟩ := p
        rw [List.lookup_cons] at hb
        by_cases q : c = c'
        · subst q
          rw [beq_self_eq_true] at hb
          cases hb
          exact List.mem_cons_self
        · rw [beq_eq_false_iff_ne.mpr q] at hb
          exact List.mem_cons_of_mem _ (ih hb)
    obtain ⟨C, x, rfl⟩ := cl _ hm
    exact ⟨_, x, of_decide_eq_true (List.all_eq_true.mp e2 _ hm)⟩
end
/-- isinstance(e, class) -/
def pIsi (an : D → Option Bool) (ta : PEt) : PEt := fun Γ Q => ta Γ fun r Γ1 => wd Γ1 (unfr r) fun d => ∃ b, an d = some b ∧ Q (.sh (.bl b)) Γ1
section
variable {X : Cx} {p p2 p3 p4 pos : Pos} {e : Expr} {ta : PEt} {fo : Nat → Option Bool} {t : Ty7}
/-- the class is told by any expression that gives a class -/
theorem qe_isi1 {u : V} {v : Value} {ec : Expr} (ok : IsiOk (gc X) [v] t.at_ fo) (hu : ClsV u v) (hc : QE X ec (pC (.cst u))) (hm : X.mg "isinstance" = none) (ha : QE X e ta) (hg : Gl X "isinstance" := by rfl)
    (he : starEach [e, ec] X.env = (false, eval e X.env) :: starEach [ec] X.env := by rfl) (he2 : starEach [ec] X.env = (false, eval ec X.env) :: starEach [] X.env := by rfl) (hpl : (backTo pos (starEach [ec] X.env)).any (·.1) = false := by rfl) :
    QE X (.Call (.Name "isinstance" p) [e, ec] [] pos) (pIsi (ans t fo) ta) :=
  PE.weak (pe_callB (call_isiA (us := [v]) (cs := [u])) hg hm PyProof.Rows.boot_isinstance (pa_cons ha (pa_cons hc pa_nil he2) he) (by decide) (by decide) he hpl) fun σ H Q ⟨O, Γ, Q0, E, ht, hq⟩ => by
    refine ⟨O, Γ, _, E, ht, fun r Γ1 k x H1 O1 p => ?_⟩
    obtain ⟨O2, p2⟩ := p.unfr E
    obtain ⟨d, ⟨b, hb, kb⟩, w⟩ := p2.held.wd p2.env k
    refine ⟨O2, Γ1, fun r' Γ' => r' = .sh (.cst u) ∧ Γ' = Γ1, p2.env, ⟨rfl, rfl⟩, fun r' Γ' e' y H2 O3 p3 => ?_⟩
    obtain ⟨rfl, rfl⟩ := e'
    have w2 : Vw (gc X) O3 H2 y (.cst u) := .inl p3.held
    have h1 : Held (gc X) O3 H2 σ Γ' x (unfr r) := p2.held.frm p2.env p3.frm
    have w1 : ∃ d', Vw (gc X) O3 H2 x d' ∧ ∃ b, ans t fo d' = some b ∧ Q0 (.sh (.bl b)) Γ' := by
      obtain ⟨d', z, w'⟩ := h1.wd p3.env k
      exact ⟨d', w', z⟩
    obtain ⟨d', w', b', hb', kb'⟩ := w1
    obtain ⟨ty, tx, ek⟩ := isiA_ok ok w' (ans_isi hb')
    exact ⟨x, y, ty, b', rfl, .cons hu .nil, tx, ek, .inl (by rw [w2.cst]), hq _ _ kb' _ _ _ (.after E (p2.t.trans E p3.t) (EPost.here p3.env (.bl _)))⟩
/-- isinstance(e, (list, tuple)) and the like -/
theorem qe_isi2 {u1 u2 : V} {v1 v2 : Value} {e1 e2 : Expr} {k1 : Nat} (ok : IsiOk (gc X) [v1, v2] t.at_ fo) (hu1 : ClsV u1 v1) (hu2 : ClsV u2 v2) (h1 : QE X e1 (pC (.cst u1))) (h2 : QE X e2 (pC (.cst u2))) (hm : X.mg "isinstance" = none) (ha : QE X e ta) (hg : Gl X "isinstance" := by rfl)
    (he : starEach [e, .Tuple [e1, e2] k1 p3] X.env = (false, eval e X.env) :: starEach [.Tuple [e1, e2] k1 p3] X.env := by rfl) (he2 : starEach [.Tuple [e1, e2] k1 p3] X.env = (false, eval (.Tuple [e1, e2] k1 p3) X.env) :: starEach [] X.env := by rfl) (hpl : (backTo pos (starEach [.Tuple [e1, e2] k1 p3] X.env)).any (·.1) = false := by rfl)
    (hs1 : starEach [e1, e2] X.env = (false, eval e1 X.env) :: starEach [e2] X.env := by rfl) (hs2 : starEach [e2] X.env = (false, eval e2 X.env) :: starEach [] X.env := by rfl) :
    QE X (.Call (.Name "isinstance" p) [e, .Tuple [e1, e2] k1 p3] [] pos) (pIsi (ans t fo) ta) :=
  PE.weak (pe_callB (call_isiA (us := [v1, v2]) (cs := [u1, u2])) hg hm PyProof.Rows.boot_isinstance (pa_cons ha (pa_cons (qe_tup (qa_cons h1 (qa_cons h2 qa_nil hs2) hs1)) pa_nil he2) he) (by decide) (by decide) he hpl) fun σ H Q ⟨O, Γ, Q0, E, ht, hq⟩ => by
    refine ⟨O, Γ, _, E, ht, fun r Γ1 k x H1 O1 p => ?_⟩
    obtain ⟨O2, p2⟩ := p.unfr E
    refine ⟨O2, Γ1, fun r' Γ' => r' = .sh (.tup [.cst u1, .cst u2]) ∧ Γ' = Γ1, p2.env, ⟨by show 2 ≤ sizeLine; decide, rfl, rfl⟩, fun r' Γ' e' y H2 O3 p3 => ?_⟩
    obtain ⟨rfl, rfl⟩ := e'
    have w2 : Vw (gc X) O3 H2 y (.tup [.cst u1, .cst u2]) := .inl p3.held
    have h1 : Held (gc X) O3 H2 σ Γ' x (unfr r) := p2.held.frm p2.env p3.frm
    obtain ⟨d', ⟨b', hb', kb'⟩, w'⟩ := h1.wd p3.env k
    obtain ⟨ty, tx, ek⟩ := isiA_ok ok w' (ans_isi hb')
    obtain ⟨tp, ws, rfl, hT, rr, _⟩ := w2.tup
    have := Reps.csts (cs := [u1, u2]) rr
    subst this
    exact ⟨x, _, ty, b', rfl, .cons hu1 (.cons hu2 .nil), tx, ek, .inr ⟨tp, rfl, hT⟩, hq _ _ kb' _ _ _ (.after E (p2.t.trans E p3.t) (EPost.here p3.env (.bl _)))⟩
/-- a built-in type, an own class as a value -/
theorem qe_ty {T : String} {x : Str} (hm : X.mg x = none) (hv : bootBuiltins x = some (.type T)) (hg : Gl X x := by rfl) (hn : x ≠ "__name__" := by decide) (hd : (x == ("__debug__" : Str)) = false := by decide) : QE X (.Name x pos) (pC (.cst (.ty T))) := qe_bltn hg hm hv rfl hn hd
theorem qe_cls {x : Str} {C : Addr} (hm : X.mg x = some (.ref C)) (hg : Gl X x := by rfl) (hd : (x == ("__debug__" : Str)) = false := by decide) : QE X (.Name x pos) (pC (.cst (.ref C))) := qe_glob (v := .ref C) hg hm rfl (fun _ _ _ => .cst _) hd
end
end PL

namespace PL
open PySem L2

theorem _root_.L2.Room.unitsI {k : Nat} {A : Around} (r : Room k A) : A.units + 65 < cLine := by have := r.un; omega
def blkC (N : List Str) (sc scope : Scope) (own : List (Str × Nat)) : Bool :=
  decide (scope.kind = .function) && (scope.names.all (fun y => decide (scope.names.lookup y.1 = some y.2)) && (own.all (fun p => decide (N[p.2]? = some p.1)) &&
    (scope.names.all (fun y => !decide (y.2 = .free) || (decide (sc.names.lookup y.1 = some .cell) || decide (sc.names.lookup y.1 = some .free))) &&
      scope.names.all (fun y => !(decide (y.2 = .local) || decide (y.2 = .cell)) || (decide (y.1 ∈ own.map (·.1)) || decide (y.1 ∉ N))))))
theorem blk_of {N : List Str} {sc scope : Scope} {own : List (Str × Nat)} (h : blkC N sc scope own = true) : BlkOk N sc scope own := by
  unfold blkC at h
  simp only [Bool.and_eq_true, List.all_eq_true, decide_eq_true_eq] at h
  obtain ⟨h1, h2, h3, h4, h5⟩ := h
  refine ⟨h1, h2, h3, fun y hy e => ?_, fun y hy e => ?_⟩
  · have := h4 y hy
    rw [e] at this
    simpa using this
  · have := h5 y hy
    rcases e with e | e
    · rw [e] at this; simpa using this
    · rw [e] at this; simpa using this
section
variable {X : Cx} {pos : Pos}
theorem qgi {x : Str} {i : Int} (h : ∃ t, X.mg x = some (.int i t)) (hg : Gl X x := by rfl) (hd : (x == ("__debug__" : Str)) = false := by decide) : QE X (.Name x pos) (pC (.int i)) := by
  obtain ⟨t, e⟩ := h
  exact qe_glob (v := .int i) hg e ⟨t, rfl⟩ (fun _ _ _ => .int i) hd
end
theorem kb1 {K : PySem.W.Frag} {x qual : Str} {params : Arguments} {body : List Stmt} {scope : Scope} {f : Addr} {fd : FuncData} {y : Str} (F : FunD K x qual params body scope [] [] f fd)
    (h : ∀ (kV doc pm : Value) (an : Option Addr) (cdv ct : Value) (u : Value), bindArgs (PySem.W.fnOf x qual params body scope .none kV doc pm an cdv ct) ⟨[], [(y, u)]⟩ = pure [(y, u)])
    (h2 : ∀ (kV doc pm : Value) (an : Option Addr) (cdv ct : Value) (u : Value), bindArgs (PySem.W.fnOf x qual params body scope .none kV doc pm an cdv ct) ⟨[u], []⟩ = pure [(y, u)]) :
    KBinds K fd [y] [y] (fun us ws => us ++ ws) (fun vs zs => vs ++ zs) := by
  obtain ⟨oc, od, dV, kV, doc, pm, an, cdv, ct, osl, rfl, lk, hcd, hD, hK⟩ := F.ex
  rcases hD with ⟨_, rfl⟩ | ⟨e, _⟩
  · refine ⟨fun s us ws _ hl => ?_, fun r1 r2 => r1.append r2⟩
    match us, ws, hl with
    | [], [u], _ => exact BindsTo.of_eq (h kV doc pm an cdv ct u)
    | [u], [], hl => exact BindsTo.of_eq (h2 kV doc pm an cdv ct u)
    | [], [], hl => simp at hl
    | _ :: _ :: _, _, hl => simp at hl
    | _ :: _, _ :: _, hl => simp at hl
    | [], _ :: _ :: _, hl => simp at hl
  · exact absurd rfl e
theorem boot_int : bootBuiltins "int" = some (.type "int") := by decide +kernel
theorem boot_bool : bootBuiltins "bool" = some (.type "bool") := by decide +kernel
theorem boot_str : bootBuiltins "str" = some (.type "str") := by decide +kernel
theorem boot_list : bootBuiltins "list" = some (.type "list") := by decide +kernel
theorem boot_tuple : bootBuiltins "tuple" = some (.type "tuple") := by decide +kernel
theorem boot_abs : bootBuiltins "abs" = some (.builtin "abs") := by decide +kernel
theorem boot_all : bootBuiltins "all" = some (.builtin "all") := by decide +kernel
theorem boot_any : bootBuiltins "any" = some (.builtin "any") := by decide +kernel
theorem boot_sum : bootBuiltins "sum" = some (.builtin "sum") := by decide +kernel
theorem boot_max : bootBuiltins "max" = some (.builtin "max") := by decide +kernel
theorem boot_min : bootBuiltins "min" = some (.builtin "min") := by decide +kernel
theorem boot_repr : bootBuiltins "repr" = some (.builtin "repr") := by decide +kernel
/-- a field of the classes of sel -/
structure AttK (K : PySem.W.Frag) (mg : Str → Option Value) (c j : Nat) (f : Str) : Prop where
  ex : ∃ C, mg (ct c).1 = some (.ref C) ∧ Cls K C ∧ NoAttr K C f
  ix : (ct c).2[j]? = some f
  nd : (ct c).2.Nodup
abbrev Flds (K : PySem.W.Frag) (mg : Str → Option Value) (sel : Nat → Option Nat) (f : Str) : Prop := ∀ c j, sel c = some j → AttK K mg c j f
section
variable {X : Cx} {pos pos' : Pos} {a e o : Expr} {ta te to : PEt} {f : Str} {sel : Nat → Option Nat} {B : Nat → Prop}
theorem fld (hs : Flds X.K X.mg sel f) (ha : QE X a ta) (hb : attributeBase a f X.env (eval a X.env) = eval a X.env := by rfl) : QE X (.Attribute a f pos) (pFld sel ta) := qe_fld (fun c j h => let z := hs c j h; ⟨z.ex, z.ix, z.nd⟩) ha hb
theorem setfld (hs : Flds X.K X.mg sel f) (ho : QE X o to) (he : QE X e te) (hw : swapsWith e (some (.Attribute o f pos')) pos.line X.env = pure false := by rfl) : QS X B (.Assign [.Attribute o f pos'] e pos) (pSetF sel te to) :=
  qs_setF (fun c j h => let z := hs c j h; ⟨z.ex, z.ix, z.nd⟩) ho he hw
end
/-- one class's fields -/
def sel1 (l : List (Nat × Nat)) : Nat → Option Nat := fun c => List.lookup c l
def fldChk (K : PySem.W.Frag) (l : List (Nat × Nat)) (f : Str) : Bool := l.all fun q => clsChk K q.1 && ((He.Fa.noat (ct q.1).1 f).ok K && (decide ((ct q.1).2[q.2]? = some f) && decide (ct q.1).2.Nodup))
theorem flds_of {K : PySem.W.Frag} {h : Heap} {mg : Str → Option Value} (X : K.In h) (G : h.Ns mainGlobals mg) {l : List (Nat × Nat)} {f : Str} (e : fldChk K l f = true) : Flds K mg (sel1 l) f := fun c j hb => by
  have hm : (c, j) ∈ l := by
    unfold sel1 at hb
    clear e
    induction l with
    | nil => cases hb
    | cons p r ih =>
      obtain ⟨c', b'⟩ := p
      rw [List.lookup_cons] at hb
      by_cases q : c = c'
      · subst q
        rw [beq_self_eq_true] at hb
        cases hb
        exact List.mem_cons_self
      · rw [beq_eq_false_iff_ne.mpr q] at hb
        exact List.mem_cons_of_mem _ (ih hb)
  have z := List.all_eq_true.mp e _ hm
  simp only [Bool.and_eq_true, decide_eq_true_eq] at z
  obtain ⟨z1, z2, z3, z4⟩ := z
  have k := clsX_of X G z1
  exact ⟨⟨_, k.at_, k.cls, He.noat_ok z2⟩, z3, z4⟩
end PL

namespace PL
open PySem L2
abbrev is (ns : List Int) : List D := ns.map D.int
instance {br : Bool} {i : Nat} : Decidable (refB br i) := inferInstanceAs (Decidable (br = true ∧ i = 0))
theorem put_put (Γ : List Sl) (j : Nat) (a b : Sl) : put (put Γ j a) j b = put Γ j b := by
  rw [put_eq, put_eq, put_eq, List.set_set]
/-- a comprehension's list, item by item, nothing else changing -/
theorem lc1 {xs : List D} {Γ1 : List Sl} {j : Nat} {te : PEt} {Q : Rv → List Sl → Prop} (F : D → D) (hz : xs.length ≤ sizeLine)
    (h : ∀ x (K : D → List Sl → Prop), x ∈ xs → K (F x) (put (put Γ1 j .un) j (.sh x)) → te (put (put Γ1 j .un) j (.sh x)) fun r Γ4 => fz Γ4 r K)
    (hq : Q (.fr (.lst (xs.map F))) (put (put Γ1 j .un) j (nth Γ1 j))) :
    LcK xs Γ1 (gN j) pYes te [j] Q := by
  refine ⟨fun i acc Γ => acc = (xs.take i).map F ∧ Γ = put Γ1 j .un, ⟨rfl, rfl⟩, fun i x acc Γ hx hI => ⟨fun _ => ?_, fun z => nomatch z⟩, fun acc Γ hI => ?_⟩
  · obtain ⟨rfl, rfl⟩ := hI
    have hi := (List.getElem?_eq_some_iff.mp hx).1
    refine h x _ (List.mem_of_getElem? hx) ⟨?_, ?_, ?_⟩
    · rw [List.length_map, List.length_take]; omega
    · rw [List.take_add_one, hx, List.map_append]; rfl
    · show put (put (put Γ1 j .un) j (.sh x)) j .un = _
      rw [put_put, put_put]
  · obtain ⟨rfl, rfl⟩ := hI
    rw [List.take_length]
    exact hq
/-- with a test -/
theorem lc2 {xs : List D} {Γ1 : List Sl} {j : Nat} {te : PEt} {tt : PTt} {Q : Rv → List Sl → Prop} (p : D → Bool) (F : D → D) (hz : xs.length ≤ sizeLine)
    (h : ∀ x (K : Bool → List Sl → Prop), x ∈ xs → K (p x) (put (put Γ1 j .un) j (.sh x)) → tt (put (put Γ1 j .un) j (.sh x)) K)
    (h2 : ∀ x (K : D → List Sl → Prop), x ∈ xs → p x = true → K (F x) (put (put Γ1 j .un) j (.sh x)) → te (put (put Γ1 j .un) j (.sh x)) fun r Γ4 => fz Γ4 r K)
    (hq : Q (.fr (.lst ((xs.filter p).map F))) (put (put Γ1 j .un) j (nth Γ1 j))) :
    LcK xs Γ1 (gN j) tt te [j] Q := by
  have len : ∀ i, i < xs.length → ((xs.take i).filter p).length < sizeLine := fun i hi => by
    have := List.length_filter_le p (xs.take i)
    rw [List.length_take] at this
    omega
  refine ⟨fun i acc Γ => acc = ((xs.take i).filter p).map F ∧ Γ = put Γ1 j .un, ⟨rfl, rfl⟩, fun i x acc Γ hx hI => ?_, fun acc Γ hI => ?_⟩
  · obtain ⟨rfl, rfl⟩ := hI
    have hi := (List.getElem?_eq_some_iff.mp hx).1
    refine h x _ (List.mem_of_getElem? hx) ⟨fun hp => h2 x _ (List.mem_of_getElem? hx) hp ⟨?_, ?_, ?_⟩, fun hp => ⟨?_, ?_⟩⟩
    · rw [List.length_map]; exact len i hi
    · rw [List.take_add_one, hx, List.filter_append, List.map_append]
      show _ = _ ++ ([x].filter p).map F
      rw [List.filter_cons_of_pos hp]; rfl
    · show put (put (put Γ1 j .un) j (.sh x)) j .un = _
      rw [put_put, put_put]
    · rw [List.take_add_one, hx, List.filter_append, List.map_append]
      show _ = _ ++ ([x].filter p).map F
      rw [List.filter_cons_of_neg (by rw [hp]; exact Bool.false_ne_true)]; exact (List.append_nil _).symm
    · show put (put (put Γ1 j .un) j (.sh x)) j .un = _
      rw [put_put, put_put]
  · obtain ⟨rfl, rfl⟩ := hI
    rw [List.take_length]
    exact hq
theorem eqb_int (a b : Int) : eqb (.int a) (.int b) = decide (a = b) := by
  show PyData.eqv (.int a) (.int b) = _
  by_cases h : a = b <;> simp [PyData.eqv, h]
theorem eqb_bl (a b : Bool) : eqb (.bl a) (.bl b) = decide (a = b) := by
  show PyData.eqv (.bool a) (.bool b) = _
  cases a <;> cases b <;> simp [PyData.eqv]
theorem eqb_str (a b : Str) : eqb (.str a) (.str b) = decide (a = b) := by
  show PyData.eqv (.str a) (.str b) = _
  by_cases h : a = b <;> simp [PyData.eqv, h]
theorem eqvA_is : ∀ xs ys : List Int, PyData.eqvAll (pyAll (is xs)) (pyAll (is ys)) = decide (xs = ys)
  | [], [] => by simp [is, pyAll, PyData.eqvAll]
  | [], y :: ys => by simp [is, pyAll, PyData.eqvAll]
  | x :: xs, [] => by simp [is, pyAll, PyData.eqvAll]
  | x :: xs, y :: ys => by
    show PyData.eqvAll (.int x :: pyAll (is xs)) (.int y :: pyAll (is ys)) = _
    rw [PyData.eqvAll, eqvA_is xs ys]
    by_cases h : x = y <;> simp [PyData.eqv, h]
theorem eqb_lst (xs ys : List Int) : eqb (.lst (is xs)) (.lst (is ys)) = decide (xs = ys) := by
  show PyData.eqv (.list _) (.list _) = _
  rw [PyData.eqv]; exact eqvA_is xs ys
theorem eqb_tup (xs ys : List Int) : eqb (.tup (is xs)) (.tup (is ys)) = decide (xs = ys) := by
  show PyData.eqv (.tuple _) (.tuple _) = _
  rw [PyData.eqv]; exact eqvA_is xs ys
theorem plainA_is : ∀ xs : List Int, plainA (is xs) = true
  | [] => by simp [is, plainA]
  | x :: xs => by show (plainD (.int x) && plainA (is xs)) = true; rw [plainA_is xs]; rfl
theorem canLay_is : ∀ xs : List Int, PyData.canLayAll0 (pyAll (is xs)) = true
  | [] => by simp [is, pyAll, PyData.canLayAll0]
  | x :: xs => by
    show PyData.canLayAll0 (.int x :: pyAll (is xs)) = true
    rw [PyData.canLayAll0, canLay_is xs, PyData.canLay0]; rfl
theorem depth_is : ∀ xs : List Int, PyData.depthAll (pyAll (is xs)) = 0
  | [] => by simp [is, pyAll, PyData.depthAll]
  | x :: xs => by
    show PyData.depthAll (.int x :: pyAll (is xs)) = 0
    rw [PyData.depthAll, depth_is xs, PyData.depth]; rfl
theorem shaped_lst (xs : List Int) : SeqAt.shaped (.list (pyAll (is xs))) = true := by
  unfold SeqAt.shaped
  rw [PyData.canLay0, canLay_is, PyData.depth, depth_is]; rfl
theorem shaped_tup (xs : List Int) : SeqAt.shaped (.tuple (pyAll (is xs))) = true := by
  unfold SeqAt.shaped
  rw [PyData.canLay0, canLay_is, PyData.depth, depth_is]; rfl
theorem ok_int (i : Int) : okD (.int i) = true := rfl
theorem ok_bl (i : Bool) : okD (.bl i) = true := rfl
theorem ok_lst (xs : List Int) : okD (.lst (is xs)) = true := by
  show (plainD (.lst (is xs)) && SeqAt.shaped (.list (pyAll (is xs)))) = true
  rw [shaped_lst, plainD, plainA_is]; rfl
theorem ok_tup (xs : List Int) : okD (.tup (is xs)) = true := by
  show (plainD (.tup (is xs)) && SeqAt.shaped (.tuple (pyAll (is xs)))) = true
  rw [shaped_tup, plainD, plainA_is]; rfl
theorem atI_is {ns : List Int} {k : Nat} {x : Int} (h : ns[k]? = some x) : atI (is ns) (k : Int) = some (.int x) := atI_nat (by rw [List.getElem?_map, h]; rfl)
theorem atI_is_last {ns : List Int} (h : ns ≠ []) : atI (is ns) (-1) = some (.int (ns.getLast h)) := by
  have e : is ns = is (ns.dropLast) ++ [.int (ns.getLast h)] := by
    conv => lhs; rw [← List.dropLast_concat_getLast h]
    simp [is]
  rw [e]; exact atI_last _ _
theorem cut_init {α : Type} (xs : List α) : cutG xs none (some (-1)) = xs.dropLast := by
  unfold cutG
  rw [HT.sIx_none]
  have e : HT.sIx xs.length xs.length (some (-1)) = xs.length - 1 := by
    show (if (-1 : Int) < 0 then ((-1 : Int) + (xs.length : Int)).toNat else min (-1 : Int).toNat xs.length) = _
    rw [if_pos (by decide)]; omega
  rw [e, List.drop_zero, Nat.sub_zero, List.dropLast_eq_take]
theorem cut_head {α : Type} (xs : List α) (k : Nat) : cutG xs none (some (k : Int)) = xs.take k := by
  unfold cutG
  rw [HT.sIx_none, HT.sIx_nat, List.drop_zero, Nat.sub_zero]
  rcases Nat.le_total k xs.length with h | h
  · rw [Nat.min_eq_left h]
  · rw [Nat.min_eq_right h, List.take_of_length_le h, List.take_of_length_le (Nat.le_refl _)]
theorem is_map_len (ns : List Int) : (is ns).length = ns.length := List.length_map _
theorem small_mul {i j : Int} (h : i.natAbs < 2 ^ 64) : IntMulOk i j := mulOk (.inl ⟨by omega, by omega⟩)
theorem upq {C Γ : List Sl} (w : Wk Γ C) : Up (fun Γ => Γ = C) Γ := ⟨C, w, rfl⟩
/-- a loop whose slots are told by the turn -/
theorem for_eq {xs : List D} {Γ1 : List Sl} {g : PGt} {tb : PSt} {P : PEnds} (C : Nat → List Sl) (h0 : Wk Γ1 (C 0))
    (hs : ∀ i x, xs[i]? = some x → g x (C i) fun Γ2 => tb { P with nx := Up (fun Γ => Γ = C (i + 1)), ct := Up (fun Γ => Γ = C (i + 1)), bk := P.nx } Γ2) (he : P.nx (C xs.length)) : ForK xs Γ1 g tb P :=
  ⟨⟨fun i Γ => Γ = C i, upq h0, fun i x Γ hx hI => by subst hI; exact hs i x hx, fun Γ hI => by subst hI; exact he⟩⟩
theorem ixN_nat' {n j : Nat} (hj : j < n) : ixN n (j : Int) = some j := by
  unfold ixN
  rw [if_pos (by omega), if_pos (by omega), Int.toNat_natCast]
/-- what stands behind a statement, told by a value -/
theorem seq_mid {α : Type} {t u : PSt} {P : PEnds} {Γ : List Sl} (C : α → List Sl) (h1 : ∀ K : List Sl → Prop, (∀ c, K (C c)) → t { P with nx := K } Γ) (h2 : ∀ c, u P (C c)) : pSeq t u P Γ := h1 (u P) h2
/-- // by any whole number but 0 -/
def CDivZ (_ j : Int) : Prop := j ≠ 0 ∧ j.natAbs.log2 < 9000
open PyProof.Rows PySem.Spec in
theorem op_fdivZ {X : Cx} : OpR X (binaryOp .FloorDiv) (rI CDivZ fun i j => .int (i.fdiv j)) := opI fun i j _ _ _ _ _ hc q => floordiv_int hc.1 q (.inl (PyProof.noPylong_of_log2 hc.2))
abbrev oDivZ : POp := oI CDivZ fun i j => i.fdiv j
theorem qe_divZ {X : Cx} {pos : Pos} {a b : Expr} {ta tb : PEt} (ha : QE X a ta) (hb : QE X b tb) : QE X (.BinOp a .FloorDiv b pos) (pBin oDivZ ta tb) := qe_op op_fdivZ sim_I ha hb
/-- a, b, c = x, y, z of plain local names -/
def pPar3 (i j l : Nat) (ta : PAt) : PSt := fun P Γ => ta Γ fun rs Γ1 => fzA Γ1 rs fun ds Γ2 => match ds with
  | [d, e, f] => P.nx (put (put (put Γ2 i (.sh d)) j (.sh e)) l (.sh f))
  | _ => False
theorem qs_par3 {X : Cx} {B : Nat → Prop} {pos : Pos} {i j l : Nat} {x y z : Str} {a b c : Expr} {ta : PAt} {px py pz pt : Pos} {kt k2 : Nat} {pt2 : Pos} (hc : X.calm = true) (hN : X.N.Nodup) (hi : X.N[i]? = some x) (hj : X.N[j]? = some y) (hl : X.N[l]? = some z) (hij : i ≠ j ∧ i ≠ l ∧ j ≠ l)
    (hx : X.env.scope.names.lookup x = some .local) (hy : X.env.scope.names.lookup y = some .local) (hz : X.env.scope.names.lookup z = some .local) (ha : QA' X [a, b, c] ta)
    (hw : swappedStores [.Tuple [.Name x px, .Name y py, .Name z pz] kt pt] (.Tuple [a, b, c] k2 pt2) X.env = pure (some [x, y, z])) (hB : ¬ B i ∧ ¬ B j ∧ ¬ B l := by decide)
    (hs : swapsWithSole [.Tuple [.Name x px, .Name y py, .Name z pz] kt pt] (.Tuple [a, b, c] k2 pt2) pos.line X.env = pure false := by rfl) :
    QS X B (.Assign [.Tuple [.Name x px, .Name y py, .Name z pz] kt pt] (.Tuple [a, b, c] k2 pt2) pos) (pPar3 i j l ta) := PS.weak (ps_par3 hc hN hi hj hl hij.1 hij.2.1 hij.2.2 hx hy hz ha hw hs) fun D σ H ⟨O, Γ, P, E, ht, dd⟩ => by
  refine ⟨O, Γ, _, E, ht, fun rs Γ1 k nf vs H1 O1 p => ?_⟩
  obtain ⟨ds, Γ2, O2, kd, p2, rr⟩ := fzA_ok p.env p.helds nf k
  cases rr with
  | nil => exact kd.elim
  | cons h1 rr =>
    cases rr with
    | nil => exact kd.elim
    | cons h2 rr =>
      cases rr with
      | nil => exact kd.elim
      | cons h3 rr =>
        cases rr with
        | cons h4 rr => exact kd.elim
        | nil =>
          refine ⟨_, _, _, rfl, ?_⟩
          have t2 := p.t.trans E p2
          obtain ⟨Γ3, O3, e3, p3⟩ := SPost.store (B := B) (k := fun Γ3 => Γ3 = put Γ2 i (.sh _)) p2.env (EPost.here p2.env h1) hB.1 rfl
          subst e3
          obtain ⟨Γ4, O4, e4, p4⟩ := SPost.store (B := B) (k := fun Γ4 => Γ4 = put (put Γ2 i (.sh _)) j (.sh _)) p3.env (EPost.here p3.env (h2.frm p2.env p3.frm)) hB.2.1 rfl
          subst e4
          obtain ⟨Γ5, O5, e5, p5⟩ := SPost.store (B := B) (k := fun Γ5 => Γ5 = put (put (put Γ2 i (.sh _)) j (.sh _)) l (.sh _)) p4.env (EPost.here p4.env ((h3.frm p2.env p3.frm).frm p3.env p4.frm)) hB.2.2 rfl
          subst e5
          exact dd.nx _ kd _ _ _ (t2.s.trans E ((p3.trans p2.env p4).trans p2.env p5))
section
variable {X : Cx} {k j : Nat} {φ : PCt} {pos : Pos} {a b : Expr} {ta tb : PEt} {c : Nat} {g : Nat → Bool}
open He (ga) in
theorem qte (C : OEq X.prog X.w X.K X.mg X.base k c φ) (nf : NfA X (ga X.K (ct c).1) g) (hr : Room j X.A) (ha : QE X a ta) (hb : QE X b tb) (hk : k ≤ j := by decide) : QT X (.Compare a [.Eq] [b] pos) (pTB (pOwn c g false φ ta tb)) := by
  obtain ⟨fd, ps, F, B⟩ := C.ex
  exact PT.weak (pt_cmpR (op_ownEq (c := c) ⟨C.at_, C.eq, C.fn, C.ne, C.hm⟩ F (hr.mono hk) B pass0) ha hb (nomark _)) fun σ H Q h => lift_own (c := c) ⟨C.at_, C.eq, C.fn, C.ne, C.hm⟩ nf σ H _ (lift_TB σ H Q h)
open He (ga) in
theorem qtn (C : OEq X.prog X.w X.K X.mg X.base k c φ) (nf : NfA X (ga X.K (ct c).1) g) (hr : Room j X.A) (ha : QE X a ta) (hb : QE X b tb) (hk : k + 1 ≤ j := by decide) : QT X (.Compare a [.NotEq] [b] pos) (pTB (pOwn c g true φ ta tb)) := by
  obtain ⟨fd, ps, F, B⟩ := C.ex
  exact PT.weak (pt_cmpR (op_ownNe (c := c) ⟨C.at_, C.eq, C.fn, C.ne, C.hm⟩ F (hr.mono hk) B pass0) ha hb (nomark _)) fun σ H Q h => lift_own (c := c) ⟨C.at_, C.eq, C.fn, C.ne, C.hm⟩ nf σ H _ (lift_TB σ H Q h)
end
/-- a test that is false, its slots as told -/
theorem if_false {c : PTt} {t u : PSt} {P : PEnds} {Γ : List Sl} (Γ1 : List Sl) (h1 : ∀ K : Bool → List Sl → Prop, K false Γ1 → c Γ K) (h2 : u P Γ1) : pIf c t u P Γ := h1 _ ⟨nofun, fun _ => h2⟩
theorem or_false' {t u : PTt} {Γ : List Sl} {Q : Bool → List Sl → Prop} (Γ1 : List Sl) (h1 : ∀ K : Bool → List Sl → Prop, K false Γ1 → t Γ K) (h2 : u Γ1 Q) : pOr t u Γ Q := h1 _ ⟨nofun, fun _ => h2⟩
theorem ok_repr (b : Bool) : okD (.str (if b then "True" else "False")) = true := by cases b <;> decide +kernel
theorem eqb_repr (a b : Bool) : eqb (.str (if a then "True" else "False")) (.str (if b then "True" else "False")) = decide (a = b) := by
  rw [eqb_str]
  cases a <;> cases b <;> decide +kernel
/-- is True, is not True -/
def oIsBl : POp
  | .bl a, .bl b, k => k (.sh (.bl (decide (a = b))))
  | _, _, _ => False
def oNotBl : POp
  | .bl a, .bl b, k => k (.sh (.bl (!decide (a = b))))
  | _, _, _ => False
theorem sim_isBl {G : Gc} : OpSim G rIsB oIsBl := by
  intro σ Γ O H x y d e K0 Q E w1 w2 h hq
  unfold oIsBl at h
  split at h
  · exact ⟨_, _, w1.bl, w2.bl, hq _ h _ _ _ (.here E (.bl _))⟩
  · exact h.elim
theorem sim_notBl {G : Gc} : OpSim G rNotB oNotBl := by
  intro σ Γ O H x y d e K0 Q E w1 w2 h hq
  unfold oNotBl at h
  split at h
  · exact ⟨_, _, w1.bl, w2.bl, hq _ h _ _ _ (.here E (.bl _))⟩
  · exact h.elim
end PL

namespace K17
open PySem L2 PL
def rowAdd : List Int → Nat → Int → List Int → List Int
  | f, _, _, [] => f
  | f, k, m, y :: ys => rowAdd (f.set k (f.getD k 0 + m * y)) (k + 1) m ys
def mulAcc : List Int → Nat → List Int → List Int → List Int
  | f, _, [], _ => f
  | f, k, x :: xs, ys => mulAcc (rowAdd f k x ys) (k + 1) xs ys
def conv (xs ys : List Int) : List Int := mulAcc (List.replicate (xs.length + ys.length - 1) 0) 0 xs ys
theorem rowAdd_len : ∀ (ys f : List Int) (k : Nat) (m : Int), (rowAdd f k m ys).length = f.length
  | [], _, _, _ => rfl
  | y :: ys, f, k, m => by rw [rowAdd, rowAdd_len ys]; exact List.length_set
theorem mulAcc_len : ∀ (xs f : List Int) (k : Nat) (ys : List Int), (mulAcc f k xs ys).length = f.length
  | [], _, _, _ => rfl
  | x :: xs, f, k, ys => by rw [mulAcc, mulAcc_len xs, rowAdd_len]
theorem conv_len (xs ys : List Int) : (conv xs ys).length = xs.length + ys.length - 1 := by rw [conv, mulAcc_len, List.length_replicate]
theorem rowAdd_snoc : ∀ (ys f : List Int) (k : Nat) (m y : Int), rowAdd f k m (ys ++ [y]) = (rowAdd f k m ys).set (k + ys.length) ((rowAdd f k m ys).getD (k + ys.length) 0 + m * y)
  | [], f, k, m, y => rfl
  | z :: ys, f, k, m, y => by
    rw [List.cons_append, rowAdd, rowAdd_snoc ys, rowAdd, List.length_cons, Nat.add_assoc k 1, Nat.add_comm 1]
theorem mulAcc_snoc : ∀ (xs f : List Int) (k : Nat) (x : Int) (ys : List Int), mulAcc f k (xs ++ [x]) ys = rowAdd (mulAcc f k xs ys) (k + xs.length) x ys
  | [], f, k, x, ys => rfl
  | z :: xs, f, k, x, ys => by
    rw [List.cons_append, mulAcc, mulAcc_snoc xs, mulAcc, List.length_cons, Nat.add_assoc k 1, Nat.add_comm 1]
theorem take_snoc {α : Type} {l : List α} {i : Nat} {x : α} (h : l[i]? = some x) : l.take (i + 1) = l.take i ++ [x] := by rw [List.take_add_one, h]; rfl
def tinD (ns : List Int) (at_ r : Int) : D := .lst [.lst (is ns), .int at_, .int r]
def isLot (ns : List Int) : Bool := ns.all fun n => decide (n = 0) || decide (n = 1)
def marksFrom : Nat → List Int → List Int
  | _, [] => []
  | k, n :: ns => if n ≠ 0 then (k : Int) :: marksFrom (k + 1) ns else marksFrom (k + 1) ns
def strD (ns : List Int) : D := .ins 0 [.tup (is ns), .int ((ns.length : Int) - 1), .int ns.sum, .bl (isLot ns), .tup (is (marksFrom 0 ns))]
/-- a row that can be a strip -/
structure OkS (ns : List Int) : Prop where
  h0 : ∃ h : Int, ns[0]? = some h ∧ h ≠ 0
  hl : ∃ l : Int, ns.getLast? = some l ∧ l ≠ 0
  len : ns.length ≤ 41
theorem OkS.ne {ns : List Int} (h : OkS ns) : ns ≠ [] := fun z => by obtain ⟨x, e, _⟩ := h.h0; rw [z] at e; cases e
def gcdL (ns : List Int) : Nat := ns.foldl (fun g n => Int.gcd g n) 0
theorem get_is {xs : List Int} {i : Nat} {d : D} (h : (is xs)[i]? = some d) : ∃ m, d = .int m ∧ xs[i]? = some m := by
  rw [List.getElem?_map] at h
  cases q : xs[i]? with
  | none => rw [q] at h; cases h
  | some m => rw [q] at h; cases h; exact ⟨m, rfl, rfl⟩
theorem set_is (xs : List Int) (i : Nat) (v : Int) : (is xs).set i (.int v) = is (xs.set i v) := (List.map_set (f := D.int)).symm
theorem rep0 : ∀ n : Nat, (List.replicate n [D.int 0]).flatten = is (List.replicate n 0)
  | 0 => rfl
  | n + 1 => by rw [List.replicate_succ, List.replicate_succ, List.flatten_cons, rep0 n]; rfl
theorem getD_at {xs : List Int} {i : Nat} (h : i < xs.length) : xs[i]? = some (xs.getD i 0) := by
  rw [List.getD_eq_getElem?_getD, List.getElem?_eq_getElem h]; rfl
theorem atI_lastq {ns : List Int} {l : Int} (h : ns.getLast? = some l) : atI (is ns) (-1) = some (.int l) := by
  have hn : ns ≠ [] := fun z => by rw [z] at h; cases h
  rw [atI_is_last hn]
  rw [List.getLast?_eq_some_getLast hn] at h
  cases h; rfl
theorem marks_snoc : ∀ (ns : List Int) (k : Nat) (n : Int), marksFrom k (ns ++ [n]) = marksFrom k ns ++ (if n ≠ 0 then [((k + ns.length : Nat) : Int)] else [])
  | [], k, n => by
    show marksFrom k [n] = _
    unfold marksFrom
    by_cases h : n ≠ 0
    · rw [if_pos h, if_pos h]; rfl
    · rw [if_neg h, if_neg h]; rfl
  | m :: ns, k, n => by
    rw [List.cons_append, marksFrom, marksFrom, marks_snoc ns, List.length_cons, Nat.add_assoc k 1, Nat.add_comm 1]
    by_cases h : m ≠ 0
    · rw [if_pos h, if_pos h]; rfl
    · rw [if_neg h, if_neg h]
theorem marks_len : ∀ (ns : List Int) (k : Nat), (marksFrom k ns).length ≤ ns.length
  | [], _ => Nat.le_refl _
  | n :: ns, k => by
    rw [marksFrom]
    have := marks_len ns (k + 1)
    split <;> simp only [List.length_cons] <;> omega
theorem le_line {n : Nat} (h : n ≤ 1000) : n ≤ sizeLine := by show n ≤ 2 ^ 24; omega
theorem gcdL_snoc (ns : List Int) (n : Int) : gcdL (ns ++ [n]) = Int.gcd (gcdL ns) n := by unfold gcdL; rw [List.foldl_append]; rfl
theorem gcd_mod (x y : Int) : Int.gcd y (x % y) = Int.gcd y x := by rw [Int.emod_def, Int.gcd_sub_mul_left_right]
theorem is_rev (ns : List Int) : is ns.reverse = (is ns).reverse := by rw [is, is, List.map_reverse]
theorem ok_rev {ns : List Int} (h : OkS ns) : OkS ns.reverse := by
  obtain ⟨a, ea, na⟩ := h.h0
  obtain ⟨l, el, nl⟩ := h.hl
  refine ⟨⟨l, ?_, nl⟩, ⟨a, ?_, na⟩, by rw [List.length_reverse]; exact h.len⟩
  · rw [← List.head?_eq_getElem?, List.head?_reverse]; exact el
  · rw [List.getLast?_reverse, List.head?_eq_getElem?]; exact ea
theorem lot_eq (ns : List Int) : (ns.map fun n => [D.int 0, D.int 1].any fun z => eqb z (.int n)).all id = isLot ns := by
  unfold isLot
  rw [List.all_map]
  congr 1
  funext n
  show (eqb (.int 0) (.int n) || (eqb (.int 1) (.int n) || false)) = _
  rw [eqb_int, eqb_int, Bool.or_false]
  by_cases h0 : n = 0
  · subst h0; rfl
  · by_cases h1 : n = 1
    · subst h1; rfl
    · simp [h0, h1, Ne.symm h0, Ne.symm h1]
theorem log_small {m : Int} (h : m.natAbs < 2 ^ 62) : m.natAbs.log2 < 9000 := by
  by_cases h0 : m.natAbs = 0
  · rw [h0]; decide
  · have := (Nat.log2_lt h0).mpr h
    omega
theorem pow_ok : CPow 10 18 := ⟨by decide, by decide, by decide⟩
theorem ne_nil_of {ns : List Int} (h : (!eqb (.lst (is ns)) (.lst [])) = true) : ns ≠ [] := fun z => by
  subst z
  have e := eqb_lst [] []
  rw [show (!eqb (.lst (is [])) (.lst [])) = !eqb (.lst (is [])) (.lst (is [])) from rfl, e] at h
  simp at h
/-- not 0 at either end -/
structure OkR (ns : List Int) : Prop where
  h0 : ∃ h : Int, ns[0]? = some h ∧ h ≠ 0
  hl : ∃ l : Int, ns.getLast? = some l ∧ l ≠ 0
theorem getD_set {xs : List Int} {p q : Nat} {v : Int} (h : p < xs.length) : (xs.set p v).getD q 0 = if p = q then v else xs.getD q 0 := by
  rw [List.getD_eq_getElem?_getD, List.getD_eq_getElem?_getD]
  by_cases e : p = q
  · subst e; rw [if_pos rfl, List.getElem?_set_self h]; rfl
  · rw [if_neg e, List.getElem?_set_ne e]
theorem gcdL_dvd : ∀ {ns : List Int} {n : Int}, n ∈ ns → ((gcdL ns : Nat) : Int) ∣ n := fun {ns n} h => by
  have key : ∀ (l : List Int) (g : Nat), (((l.foldl (fun g n => Int.gcd g n) g : Nat) : Int) ∣ (g : Int)) ∧ ∀ n ∈ l, ((l.foldl (fun g n => Int.gcd g n) g : Nat) : Int) ∣ n := by
    intro l
    induction l with
    | nil => intro g; exact ⟨Int.dvd_refl _, fun n hn => nomatch hn⟩
    | cons a l ih =>
      intro g
      obtain ⟨h1, h2⟩ := ih (Int.gcd g a)
      refine ⟨Int.dvd_trans h1 (Int.gcd_dvd_left _ _), fun n hn => ?_⟩
      rcases List.mem_cons.mp hn with z | z
      · rw [z]; exact Int.dvd_trans h1 (Int.gcd_dvd_right _ _)
      · exact h2 n z
  exact (key ns 0).2 n h
theorem gcdL_pos {ns : List Int} {n : Int} (h : n ∈ ns) (h0 : n ≠ 0) : 0 < gcdL ns := by
  rcases Nat.eq_zero_or_pos (gcdL ns) with z | z
  · have := gcdL_dvd h
    rw [z] at this
    exact absurd (Int.zero_dvd.mp this) h0
  · exact z
theorem gcdL_le {ns : List Int} {n : Int} (h : n ∈ ns) (h0 : n ≠ 0) : gcdL ns ≤ n.natAbs :=
  Nat.le_of_dvd (Int.natAbs_pos.mpr h0) (Int.ofNat_dvd_left.mp (gcdL_dvd h))
def plainL (ns : List Int) : List Int := ns.map fun n => if 0 < ns.getLastD 0 then n / (gcdL ns : Int) else -(n / (gcdL ns : Int))
theorem fdiv_neg' {n g : Int} (hg : 0 < g) (h : g ∣ n) : n.fdiv (-g) = -(n / g) := by
  obtain ⟨c, rfl⟩ := h
  rw [Int.mul_ediv_cancel_left _ (by omega)]
  have : g * c = (-g) * (-c) := by rw [Int.neg_mul_neg]
  rw [this, Int.mul_fdiv_cancel_left _ (by omega)]
theorem OkR.s {ns : List Int} (h : OkR ns) (hl : ns.length ≤ 41) : OkS ns := ⟨h.h0, h.hl, hl⟩
theorem OkS.r {ns : List Int} (h : OkS ns) : OkR ns := ⟨h.h0, h.hl⟩
theorem OkR.ne {ns : List Int} (h : OkR ns) : ns ≠ [] := fun z => by obtain ⟨x, e, _⟩ := h.h0; rw [z] at e; cases e
theorem OkR.last {ns : List Int} (h : OkR ns) : ns.getLastD 0 ∈ ns ∧ ns.getLastD 0 ≠ 0 ∧ ns.getLast? = some (ns.getLastD 0) := by
  obtain ⟨l, e, n⟩ := h.hl
  have eL : ns.getLastD 0 = l := by rw [List.getLastD_eq_getLast?, e]; rfl
  rw [eL]
  exact ⟨List.mem_of_getLast? e, n, e⟩
theorem is_app (a b : List Int) : is (a ++ b) = is a ++ is b := List.map_append
theorem OkR.rev {ns : List Int} (h : OkR ns) : OkR ns.reverse := by
  obtain ⟨a, ea, na⟩ := h.h0
  obtain ⟨l, el, nl⟩ := h.hl
  refine ⟨⟨l, ?_, nl⟩, ⟨a, ?_, na⟩⟩
  · rw [← List.head?_eq_getElem?, List.head?_reverse]; exact el
  · rw [List.getLast?_reverse, List.head?_eq_getElem?]; exact ea
theorem OkR.neg {ns : List Int} (h : OkR ns) : OkR (ns.map (- ·)) := by
  obtain ⟨a, ea, na⟩ := h.h0
  obtain ⟨l, el, nl⟩ := h.hl
  exact ⟨⟨-a, by rw [List.getElem?_map, ea]; rfl, by omega⟩, ⟨-l, by rw [List.getLast?_map, el]; rfl, by omega⟩⟩
theorem okR_app {xs ys : List Int} (h : OkR xs) (g : OkR ys) : OkR (xs ++ ys) := by
  obtain ⟨a, ea, na⟩ := h.h0
  obtain ⟨l, el, nl⟩ := g.hl
  refine ⟨⟨a, ?_, na⟩, ⟨l, ?_, nl⟩⟩
  · rw [List.getElem?_append_left (List.length_pos_iff.mpr h.ne)]; exact ea
  · rw [List.getLast?_append, el]; rfl
theorem okR_mid {xs : List Int} (h : OkR xs) : OkR (xs.dropLast ++ [7] ++ xs.dropLast.reverse) := by
  obtain ⟨a, ea, na⟩ := h.h0
  cases q : xs.dropLast with
  | nil => exact ⟨⟨7, rfl, by decide⟩, ⟨7, rfl, by decide⟩⟩
  | cons b t =>
    have hb : b = a := by
      have : xs.dropLast[0]? = some b := by rw [q]; rfl
      rw [List.getElem?_dropLast] at this
      split at this
      · rw [ea] at this; cases this; rfl
      · cases this
    subst hb
    refine ⟨⟨b, rfl, na⟩, ⟨b, ?_, na⟩⟩
    rw [List.getLast?_append, List.getLast?_reverse]; rfl
theorem plain_len (xs : List Int) : (plainL xs).length = xs.length := List.length_map _
theorem plain_one {xs : List Int} (h : gcdL xs = 1) : plainL xs = xs ∨ plainL xs = xs.map (- ·) := by
  unfold plainL
  rw [h]
  by_cases hl : 0 < xs.getLastD 0
  · left
    rw [List.map_congr_left (g := id) fun n _ => by rw [if_pos hl]; exact Int.ediv_one n, List.map_id]
  · right
    exact List.map_congr_left fun n _ => by rw [if_neg hl]; show -(n / 1) = -n; rw [Int.ediv_one]
theorem okR_nz {ys zs : List Int} (h : OkR ys) (hl : zs.length = ys.length) (hz : ∀ (n : Nat) (z y : Int), zs[n]? = some z → ys[n]? = some y → y ≠ 0 → z ≠ 0) : OkR zs := by
  obtain ⟨a, ea, na⟩ := h.h0
  obtain ⟨l, el, nl⟩ := h.hl
  have hp : 0 < ys.length := List.length_pos_iff.mpr h.ne
  refine ⟨⟨_, getD_at (by omega), hz 0 _ _ (getD_at (by omega)) ea na⟩, ⟨zs.getD (zs.length - 1) 0, ?_, hz (zs.length - 1) _ l (getD_at (by omega)) ?_ nl⟩⟩
  · rw [List.getLast?_eq_getElem?]; exact getD_at (by omega)
  · rw [hl, ← List.getLast?_eq_getElem?]; exact el
theorem ok_two (a b : List Int) : okD (.lst [.lst (is a), .lst (is b)]) = true := by
  show (plainD (.lst [.lst (is a), .lst (is b)]) && SeqAt.shaped (.list [.list (pyAll (is a)), .list (pyAll (is b))])) = true
  have h1 : plainD (.lst [.lst (is a), .lst (is b)]) = true := by
    rw [plainD, plainA, plainA, plainA, plainD, plainD, plainA_is, plainA_is]; rfl
  have h2 : SeqAt.shaped (.list [.list (pyAll (is a)), .list (pyAll (is b))]) = true := by
    unfold SeqAt.shaped
    rw [PyData.canLay0, PyData.canLayAll0, PyData.canLayAll0, PyData.canLayAll0, PyData.canLay0, PyData.canLay0, canLay_is, canLay_is, PyData.depth, PyData.depthAll, PyData.depthAll, PyData.depthAll, PyData.depth, PyData.depth, depth_is, depth_is]; rfl
  rw [h1, h2]; rfl
theorem sum_bd {A : Nat} : ∀ {xs : List Int}, (∀ x ∈ xs, x.natAbs ≤ A) → xs.sum.natAbs ≤ xs.length * A
  | [], _ => by simp
  | x :: xs, h => by
    have h1 := h x List.mem_cons_self
    have h2 := sum_bd (xs := xs) fun y hy => h y (List.mem_cons_of_mem _ hy)
    rw [List.sum_cons, List.length_cons, Nat.succ_mul]
    omega
end K17

namespace K17
open PySem L2 PL
/-- the coefficient k of the product -/
def co : List Int → (Nat → Int) → Nat → Int
  | [], _, _ => 0
  | x :: xs, g, k => x * g k + (match k with | 0 => 0 | k + 1 => co xs g k)
abbrev fn_ (ys : List Int) : Nat → Int := fun i => ys.getD i 0
theorem rowAdd_at : ∀ (ys f : List Int) (k : Nat) (m : Int) (n : Nat), k + ys.length ≤ f.length → (rowAdd f k m ys).getD n 0 = f.getD n 0 + (if k ≤ n then m * ys.getD (n - k) 0 else 0)
  | [], f, k, m, n, _ => by
    rw [rowAdd]
    split <;> simp
  | y :: ys, f, k, m, n, h => by
    rw [List.length_cons] at h
    rw [rowAdd, rowAdd_at ys _ (k + 1) m n (by rw [List.length_set]; omega), getD_set (by omega)]
    by_cases h1 : k = n
    · subst h1
      rw [if_pos rfl, if_neg (by omega), if_pos (Nat.le_refl _), Nat.sub_self]
      simp
    · rw [if_neg h1]
      by_cases h2 : k + 1 ≤ n
      · rw [if_pos h2, if_pos (by omega)]
        have e : n - k = (n - (k + 1)) + 1 := by omega
        rw [e, List.getD_cons_succ]
      · rw [if_neg h2, if_neg (by omega)]
theorem mulAcc_at : ∀ (xs f : List Int) (k : Nat) (ys : List Int) (n : Nat), k + xs.length + ys.length ≤ f.length + 1 → (mulAcc f k xs ys).getD n 0 = f.getD n 0 + (if k ≤ n then co xs (fn_ ys) (n - k) else 0)
  | [], f, k, ys, n, _ => by
    rw [mulAcc]
    split <;> simp [co]
  | x :: xs, f, k, ys, n, h => by
    rw [List.length_cons] at h
    rw [mulAcc, mulAcc_at xs _ (k + 1) ys n (by rw [rowAdd_len]; omega), rowAdd_at _ _ _ _ _ (by omega)]
    by_cases h1 : k ≤ n
    · rw [if_pos h1, if_pos h1]
      by_cases h2 : k + 1 ≤ n
      · rw [if_pos h2]
        have e : n - k = (n - (k + 1)) + 1 := by omega
        rw [e]
        show _ = _ + (x * ys.getD (n - (k + 1) + 1) 0 + co xs (fn_ ys) (n - (k + 1)))
        omega
      · rw [if_neg h2]
        have e : n - k = 0 := by omega
        rw [e]
        show _ = _ + (x * ys.getD 0 0 + 0)
        omega
    · rw [if_neg h1, if_neg h1, if_neg (by omega)]
      omega
theorem conv_at {xs ys : List Int} (hx : xs ≠ []) (n : Nat) : (conv xs ys).getD n 0 = co xs (fn_ ys) n := by
  have hp := List.length_pos_iff.mpr hx
  rw [conv, mulAcc_at _ _ _ _ _ (by rw [List.length_replicate]; omega), if_pos (Nat.zero_le _), Nat.sub_zero]
  have : (List.replicate (xs.length + ys.length - 1) (0 : Int)).getD n 0 = 0 := by
    rw [List.getD_eq_getElem?_getD, List.getElem?_replicate]; split <;> rfl
  rw [this, Int.zero_add]
theorem ext_getD {a b : List Int} (hl : a.length = b.length) (h : ∀ n, a.getD n 0 = b.getD n 0) : a = b := by
  refine List.ext_getElem? fun n => ?_
  by_cases q : n < a.length
  · rw [getD_at q, getD_at (by omega), h]
  · rw [List.getElem?_eq_none (by omega), List.getElem?_eq_none (by omega)]
theorem getD_ge {a : List Int} {n : Nat} (h : a.length ≤ n) : a.getD n 0 = 0 := by rw [List.getD_eq_getElem?_getD, List.getElem?_eq_none h]; rfl
theorem co_cons : ∀ (xs : List Int) (y : Int) (ys : List Int) (k : Nat), co xs (fn_ (y :: ys)) k = y * xs.getD k 0 + (match k with | 0 => 0 | k + 1 => co xs (fn_ ys) k)
  | [], y, ys, k => by cases k <;> simp [co]
  | x :: xs, y, ys, 0 => by
    show x * y + 0 = y * x + 0
    rw [Int.mul_comm]
  | x :: xs, y, ys, k + 1 => by
    show x * ys.getD k 0 + co xs (fn_ (y :: ys)) k = y * xs.getD k 0 + co (x :: xs) (fn_ ys) k
    rw [co_cons xs y ys k]
    cases k with
    | zero => show x * ys.getD 0 0 + (y * xs.getD 0 0 + 0) = y * xs.getD 0 0 + (x * ys.getD 0 0 + 0); omega
    | succ k => show x * ys.getD (k + 1) 0 + (y * xs.getD (k + 1) 0 + co xs (fn_ ys) k) = y * xs.getD (k + 1) 0 + (x * ys.getD (k + 1) 0 + co xs (fn_ ys) k); omega
theorem co_nil (xs : List Int) (k : Nat) : co xs (fn_ []) k = 0 := by
  induction xs generalizing k with
  | nil => rfl
  | cons x xs ih => cases k with
    | zero => simp [co]
    | succ k => show x * _ + co xs (fn_ []) k = 0; rw [ih]; simp
theorem co_comm : ∀ (xs ys : List Int) (k : Nat), co xs (fn_ ys) k = co ys (fn_ xs) k
  | xs, [], k => by rw [co_nil]; rfl
  | xs, y :: ys, k => by
    rw [co_cons]
    cases k with
    | zero => rfl
    | succ k => show y * xs.getD (k + 1) 0 + co xs (fn_ ys) k = y * xs.getD (k + 1) 0 + co ys (fn_ xs) k; rw [co_comm xs ys k]
theorem conv_comm' {xs ys : List Int} (hx : xs ≠ []) (hy : ys ≠ []) : conv xs ys = conv ys xs := by
  refine ext_getD (by rw [conv_len, conv_len, Nat.add_comm]) fun n => ?_
  rw [conv_at hx, conv_at hy, co_comm]
theorem co_bd {A B : Nat} {g : Nat → Int} (hg : ∀ i, (g i).natAbs ≤ B) : ∀ {xs : List Int} (k : Nat), (∀ x ∈ xs, x.natAbs ≤ A) → (co xs g k).natAbs ≤ xs.length * (A * B)
  | [], k, _ => by simp [co]
  | x :: xs, k, h => by
    have h1 : (x * g k).natAbs ≤ A * B := by rw [Int.natAbs_mul]; exact Nat.mul_le_mul (h x List.mem_cons_self) (hg k)
    have h2 : (match k with | 0 => (0 : Int) | k + 1 => co xs g k).natAbs ≤ xs.length * (A * B) := by
      cases k with
      | zero => simp
      | succ k => exact co_bd hg k fun y hy => h y (List.mem_cons_of_mem _ hy)
    rw [List.length_cons, Nat.succ_mul]
    show (x * g k + _).natAbs ≤ _
    omega
theorem conv_bd {A B : Nat} {xs ys : List Int} (hx : ∀ x ∈ xs, x.natAbs ≤ A) (hy : ∀ y ∈ ys, y.natAbs ≤ B) (h0 : xs ≠ []) : ∀ z ∈ conv xs ys, z.natAbs ≤ xs.length * (A * B) := fun z hz => by
  obtain ⟨n, hn, rfl⟩ := List.mem_iff_getElem.mp hz
  have e : (conv xs ys)[n] = (conv xs ys).getD n 0 := by rw [List.getD_eq_getElem?_getD, List.getElem?_eq_getElem hn]; rfl
  rw [e, conv_at h0]
  refine co_bd (fun i => ?_) n hx
  by_cases q : i < ys.length
  · exact hy _ (List.mem_of_getElem? (getD_at q))
  · show (ys.getD i 0).natAbs ≤ B; rw [getD_ge (by omega)]; simp
theorem sum_set : ∀ {f : List Int} {k : Nat} {v : Int}, k < f.length → (f.set k (f.getD k 0 + v)).sum = f.sum + v
  | [], k, v, h => by simp at h
  | a :: f, 0, v, _ => by simp; omega
  | a :: f, k + 1, v, h => by
    rw [List.set_cons_succ, List.sum_cons, List.sum_cons, List.getD_cons_succ, sum_set (by simpa using h)]
    omega
theorem rowAdd_sum : ∀ (ys f : List Int) (k : Nat) (m : Int), k + ys.length ≤ f.length → (rowAdd f k m ys).sum = f.sum + m * ys.sum
  | [], f, k, m, _ => by simp [rowAdd]
  | y :: ys, f, k, m, h => by
    rw [List.length_cons] at h
    rw [rowAdd, rowAdd_sum ys _ _ _ (by rw [List.length_set]; omega), sum_set (by omega), List.sum_cons, Int.mul_add]
    omega
theorem mulAcc_sum : ∀ (xs f : List Int) (k : Nat) (ys : List Int), k + xs.length + ys.length ≤ f.length + 1 → (mulAcc f k xs ys).sum = f.sum + xs.sum * ys.sum
  | [], f, k, ys, _ => by simp [mulAcc]
  | x :: xs, f, k, ys, h => by
    rw [List.length_cons] at h
    rw [mulAcc, mulAcc_sum xs _ _ _ (by rw [rowAdd_len]; omega), rowAdd_sum _ _ _ _ (by omega), List.sum_cons, Int.add_mul]
    omega
theorem sum_conv (xs ys : List Int) (hx : xs ≠ []) (hy : ys ≠ []) : (conv xs ys).sum = xs.sum * ys.sum := by
  have hp := List.length_pos_iff.mpr hx
  rw [conv, mulAcc_sum _ _ _ _ (by rw [List.length_replicate]; omega)]
  have : ∀ n, (List.replicate n (0 : Int)).sum = 0 := fun n => by induction n <;> simp_all [List.replicate_succ]
  rw [this, Int.zero_add]
end K17

namespace K17
open PySem L2 PL
theorem co_high : ∀ (xs ys : List Int) (k : Nat), xs.length + ys.length ≤ k + 1 → co xs (fn_ ys) k = 0
  | [], _, _, _ => rfl
  | x :: xs, ys, k, h => by
    rw [List.length_cons] at h
    show x * ys.getD k 0 + _ = 0
    rw [getD_ge (by omega), Int.mul_zero, Int.zero_add]
    cases k with
    | zero => rfl
    | succ k => exact co_high xs ys k (by omega)
theorem co_snoc : ∀ (xs : List Int) (x : Int) (g : Nat → Int) (k : Nat), co (xs ++ [x]) g k = co xs g k + (if xs.length ≤ k then x * g (k - xs.length) else 0)
  | [], x, g, k => by
    cases k <;> simp [co]
  | y :: xs, x, g, k => by
    show y * g k + _ = (y * g k + _) + _
    cases k with
    | zero => rw [if_neg (by rw [List.length_cons]; omega)]; show y * g 0 + 0 = y * g 0 + 0 + 0; omega
    | succ k =>
      show y * g (k + 1) + co (xs ++ [x]) g k = (y * g (k + 1) + co xs g k) + _
      rw [co_snoc xs x g k, List.length_cons, Nat.add_sub_add_right]
      by_cases h : xs.length ≤ k
      · rw [if_pos h, if_pos (by omega)]; omega
      · rw [if_neg h, if_neg (by omega)]; omega
theorem getD_rev {ys : List Int} {i : Nat} (h : i < ys.length) : ys.reverse.getD i 0 = ys.getD (ys.length - 1 - i) 0 := by
  rw [List.getD_eq_getElem?_getD, List.getElem?_reverse h, ← List.getD_eq_getElem?_getD]
theorem co_rev : ∀ (xs ys : List Int) (k : Nat), k + 1 < xs.length + ys.length → co xs.reverse (fn_ ys.reverse) k = co xs (fn_ ys) (xs.length + ys.length - 2 - k)
  | [], _, _, _ => rfl
  | x :: xs, ys, k, h => by
    rw [List.length_cons] at h
    rw [List.reverse_cons, co_snoc, List.length_reverse, List.length_cons]
    show _ = x * ys.getD (xs.length + 1 + ys.length - 2 - k) 0 + _
    have e1 : (if xs.length ≤ k then x * fn_ ys.reverse (k - xs.length) else 0) = x * ys.getD (xs.length + 1 + ys.length - 2 - k) 0 := by
      by_cases q : xs.length ≤ k
      · rw [if_pos q]
        show x * ys.reverse.getD _ 0 = _
        rw [getD_rev (by omega)]
        congr 2; omega
      · rw [if_neg q, getD_ge (by omega), Int.mul_zero]
    rw [e1]
    by_cases q : k + 1 < xs.length + ys.length
    · rw [co_rev xs ys k q]
      have e2 : xs.length + 1 + ys.length - 2 - k = (xs.length + ys.length - 2 - k) + 1 := by omega
      rw [e2]
      show _ = _ + co xs (fn_ ys) (xs.length + ys.length - 2 - k)
      omega
    · have e2 : xs.length + 1 + ys.length - 2 - k = 0 := by omega
      rw [e2, co_high _ _ _ (by rw [List.length_reverse, List.length_reverse]; omega)]
      show 0 + _ = _ + 0
      omega
theorem conv_rev (xs ys : List Int) (hx : xs ≠ []) (hy : ys ≠ []) : (conv xs ys).reverse = conv xs.reverse ys.reverse := by
  have px := List.length_pos_iff.mpr hx
  have py := List.length_pos_iff.mpr hy
  have hx' : xs.reverse ≠ [] := by simpa using hx
  refine ext_getD (by rw [List.length_reverse, conv_len, conv_len, List.length_reverse, List.length_reverse]) fun n => ?_
  rw [conv_at hx']
  by_cases q : n < (conv xs ys).length
  · rw [getD_rev q, conv_at hx, conv_len]
    rw [conv_len] at q
    rw [co_rev _ _ _ (by omega)]
    congr 1
  · rw [getD_ge (by rw [List.length_reverse]; omega)]
    rw [conv_len] at q
    rw [co_high _ _ _ (by rw [List.length_reverse, List.length_reverse]; omega)]
theorem head_conv {xs ys : List Int} (hx : xs ≠ []) : (conv xs ys).getD 0 0 = xs.getD 0 0 * ys.getD 0 0 := by
  rw [conv_at hx]
  cases xs with
  | nil => exact absurd rfl hx
  | cons x xs => show x * ys.getD 0 0 + 0 = x * _; omega
theorem lastD_rev (l : List Int) : l.getLastD 0 = l.reverse.getD 0 0 := by
  rw [List.getLastD_eq_getLast?, List.getD_eq_getElem?_getD, ← List.head?_eq_getElem?, List.head?_reverse]
theorem last_conv {xs ys : List Int} (hx : xs ≠ []) (hy : ys ≠ []) : (conv xs ys).getLastD 0 = xs.getLastD 0 * ys.getLastD 0 := by
  rw [lastD_rev, conv_rev _ _ hx hy, head_conv (by simpa using hx), ← lastD_rev, ← lastD_rev]
theorem okR_iff {l : List Int} (hl : l ≠ []) : OkR l ↔ l.getD 0 0 ≠ 0 ∧ l.getLastD 0 ≠ 0 := by
  have hp := List.length_pos_iff.mpr hl
  constructor
  · intro h
    obtain ⟨a, ea, na⟩ := h.h0
    refine ⟨?_, h.last.2.1⟩
    rw [List.getD_eq_getElem?_getD, ea]; exact na
  · intro h
    refine ⟨⟨_, getD_at hp, h.1⟩, ⟨l.getLastD 0, ?_, h.2⟩⟩
    rw [List.getLastD_eq_getLast?, List.getLast?_eq_some_getLast hl]; rfl
theorem conv_ne {xs ys : List Int} (hx : xs ≠ []) (hy : ys ≠ []) : conv xs ys ≠ [] := fun z => by
  have h := conv_len xs ys
  have px := List.length_pos_iff.mpr hx
  have py := List.length_pos_iff.mpr hy
  rw [z] at h
  simp at h; omega
theorem okR_conv {xs ys : List Int} (hx : OkR xs) (hy : OkR ys) : OkR (conv xs ys) := by
  have h1 := (okR_iff hx.ne).mp hx
  have h2 := (okR_iff hy.ne).mp hy
  refine (okR_iff (conv_ne hx.ne hy.ne)).mpr ⟨?_, ?_⟩
  · rw [head_conv hx.ne]; exact Int.mul_ne_zero h1.1 h2.1
  · rw [last_conv hx.ne hy.ne]; exact Int.mul_ne_zero h1.2 h2.2
theorem co_sub (g h : Nat → Int) : ∀ (xs : List Int) (k : Nat), co xs (fun i => g i - h i) k = co xs g k - co xs h k
  | [], _ => rfl
  | x :: xs, 0 => by show x * (g 0 - h 0) + 0 = (x * g 0 + 0) - (x * h 0 + 0); rw [Int.mul_sub]; omega
  | x :: xs, k + 1 => by
    show x * (g (k + 1) - h (k + 1)) + co xs _ k = (x * g (k + 1) + co xs g k) - (x * h (k + 1) + co xs h k)
    rw [co_sub g h xs k, Int.mul_sub]; omega
theorem co_neg (g : Nat → Int) : ∀ (xs : List Int) (k : Nat), co xs (fun i => -g i) k = -co xs g k
  | [], _ => rfl
  | x :: xs, 0 => by show x * (-g 0) + 0 = -(x * g 0 + 0); rw [Int.mul_neg]; omega
  | x :: xs, k + 1 => by
    show x * (-g (k + 1)) + co xs _ k = -(x * g (k + 1) + co xs g k)
    rw [co_neg g xs k, Int.mul_neg]; omega
theorem co_zero {g : Nat → Int} : ∀ (xs : List Int) (k : Nat), (∀ i ≤ k, g i = 0) → co xs g k = 0
  | [], _, _ => rfl
  | x :: xs, 0, h => by show x * g 0 + 0 = 0; rw [h 0 (Nat.le_refl _)]; omega
  | x :: xs, k + 1, h => by
    show x * g (k + 1) + co xs g k = 0
    rw [h _ (Nat.le_refl _), co_zero xs k fun i hi => h i (by omega)]; omega
theorem co_cancel {x : Int} {xs : List Int} {g : Nat → Int} (hx : x ≠ 0) (h : ∀ k, co (x :: xs) g k = 0) (n : Nat) : g n = 0 := by
  induction n using Nat.strongRecOn with
  | _ n ih =>
    have e := h n
    have e2 : co (x :: xs) g n = x * g n := by
      cases n with
      | zero => show x * g 0 + 0 = _; omega
      | succ n => show x * g (n + 1) + co xs g n = _; rw [co_zero xs n fun i hi => ih i (by omega)]; omega
    rw [e2] at e
    rcases Int.mul_eq_zero.mp e with z | z
    · exact absurd z hx
    · exact z
theorem cancel {xs a b : List Int} (h : OkR xs) (hl : a.length = b.length) (e : ∀ n, co xs (fn_ a) n = co xs (fn_ b) n) : a = b := by
  obtain ⟨x, ex, nx⟩ := h.h0
  cases xs with
  | nil => cases ex
  | cons y xs =>
    cases ex
    refine ext_getD hl fun n => ?_
    have := co_cancel (g := fun i => fn_ a i - fn_ b i) nx (fun k => by rw [co_sub, e]; omega) n
    have : a.getD n 0 - b.getD n 0 = 0 := this
    omega
theorem fn_neg (b : List Int) (n : Nat) : (b.map (- ·)).getD n 0 = -(b.getD n 0) := by
  rw [List.getD_eq_getElem?_getD, List.getD_eq_getElem?_getD, List.getElem?_map]
  cases b[n]? <;> rfl
theorem conv_neg {xs b : List Int} (hx : xs ≠ []) : conv xs (b.map (- ·)) = (conv xs b).map (- ·) := by
  refine ext_getD (by rw [List.length_map, conv_len, conv_len, List.length_map]) fun n => ?_
  rw [fn_neg, conv_at hx, conv_at hx, ← co_neg]
  congr 1
  funext i
  exact fn_neg b i
theorem conv_inj {xs a b : List Int} (h : OkR xs) (hl : a.length = b.length) : conv xs a = conv xs b ↔ a = b :=
  ⟨fun e => cancel h hl fun n => by rw [← conv_at h.ne, ← conv_at h.ne, e], fun e => by rw [e]⟩
def sameB (ns : List Int) : Bool := decide (ns = ns.reverse) || decide (ns = ns.reverse.map (- ·))
theorem neg_neg_l : ∀ l : List Int, (l.map (- ·)).map (- ·) = l
  | [] => rfl
  | x :: l => by rw [List.map_cons, List.map_cons, neg_neg_l l, Int.neg_neg]
theorem same_conv {xs ys : List Int} (hx : OkR xs) (hy : OkR ys) (h : sameB xs = true) : sameB (conv xs ys) = sameB ys := by
  have hr : (conv xs ys).reverse = conv xs.reverse ys.reverse := conv_rev _ _ hx.ne hy.ne
  have lr : ys.length = ys.reverse.length := List.length_reverse.symm
  have ln : ys.length = (ys.reverse.map (- ·)).length := by rw [List.length_map, List.length_reverse]
  have i1 := conv_inj (a := ys) (b := ys.reverse) hx lr
  have i2 := conv_inj (a := ys) (b := ys.reverse.map (- ·)) hx ln
  unfold sameB at h ⊢
  rw [hr]
  rw [Bool.or_eq_true, decide_eq_true_eq, decide_eq_true_eq] at h
  rcases h with h | h
  · rw [← h, ← conv_neg hx.ne, decide_eq_decide.mpr i1, decide_eq_decide.mpr i2]
  · have e : conv xs.reverse ys.reverse = (conv xs ys.reverse).map (- ·) := by
      have hxr : xs.reverse = xs.map (- ·) := by
        conv => rhs; rw [h]
        rw [neg_neg_l]
      have hyr : ys.reverse ≠ [] := fun z => hy.ne (List.reverse_eq_nil_iff.mp z)
      have hxm : xs.map (- ·) ≠ [] := fun z => hx.ne (List.map_eq_nil_iff.mp z)
      rw [hxr, conv_comm' hxm hyr, conv_neg hyr, conv_comm' hyr hx.ne]
    rw [e, neg_neg_l, ← conv_neg hx.ne, decide_eq_decide.mpr i1, decide_eq_decide.mpr i2, Bool.or_comm]
end K17

namespace K17
open PySem L2 PL
def Pr (p : Nat) : Prop := 2 ≤ p ∧ ∀ d, d ∣ p → d = 1 ∨ d = p
theorem prime_in (n : Nat) : 2 ≤ n → ∃ p, Pr p ∧ p ∣ n := by
  induction n using Nat.strongRecOn with
  | _ n ih =>
    intro h
    by_cases q : ∀ d, d ∣ n → d = 1 ∨ d = n
    · exact ⟨n, ⟨h, q⟩, Nat.dvd_refl n⟩
    · have : ∃ d, d ∣ n ∧ d ≠ 1 ∧ d ≠ n := by
        refine Classical.byContradiction fun z => q fun d hd => ?_
        refine Classical.byContradiction fun y => z ⟨d, hd, fun e => y (.inl e), fun e => y (.inr e)⟩
      obtain ⟨d, hd, h1, h2⟩ := this
      have hle := Nat.le_of_dvd (by omega) hd
      have h0 : d ≠ 0 := fun z => by rw [z] at hd; have := Nat.eq_zero_of_zero_dvd hd; omega
      obtain ⟨p, hp, hpd⟩ := ih d (by omega) (by omega)
      exact ⟨p, hp, Nat.dvd_trans hpd hd⟩
theorem Pr.mul {p : Nat} (hp : Pr p) {a b : Int} (h : (p : Int) ∣ a * b) : (p : Int) ∣ a ∨ (p : Int) ∣ b := by
  rw [Int.ofNat_dvd_left, Int.natAbs_mul] at h
  rw [Int.ofNat_dvd_left, Int.ofNat_dvd_left]
  rcases hp.2 _ (Nat.gcd_dvd_left p a.natAbs) with g | g
  · exact .inr (Nat.Coprime.dvd_of_dvd_mul_left g h)
  · left; rw [← g]; exact Nat.gcd_dvd_right _ _
theorem co_dvd {p : Int} {g : Nat → Int} : ∀ (xs : List Int) (k : Nat), (∀ i ≤ k, p ∣ g i) → p ∣ co xs g k
  | [], _, _ => Int.dvd_zero p
  | x :: xs, 0, h => by
    show p ∣ x * g 0 + 0
    rw [Int.add_zero]; exact Int.dvd_trans (h 0 (Nat.le_refl _)) (Int.dvd_mul_left _ _)
  | x :: xs, k + 1, h => by
    show p ∣ x * g (k + 1) + co xs g k
    exact Int.dvd_add (Int.dvd_trans (h _ (Nat.le_refl _)) (Int.dvd_mul_left _ _)) (co_dvd xs k fun i hi => h i (by omega))
theorem co_at {p : Int} {g : Nat → Int} {j : Nat} (hg : ∀ b < j, p ∣ g b) : ∀ (xs : List Int) (i : Nat), (∀ a < i, p ∣ xs.getD a 0) → p ∣ co xs g (i + j) - xs.getD i 0 * g j
  | [], i, _ => by show p ∣ 0 - 0 * g j; rw [Int.zero_mul, Int.sub_zero]; exact Int.dvd_zero p
  | x :: xs, 0, _ => by
    rw [Nat.zero_add]
    cases j with
    | zero => show p ∣ (x * g 0 + 0) - x * g 0; rw [Int.add_zero, Int.sub_self]; exact Int.dvd_zero p
    | succ j =>
      show p ∣ (x * g (j + 1) + co xs g j) - x * g (j + 1)
      rw [Int.add_comm, Int.add_sub_cancel]
      exact co_dvd xs j fun i hi => hg i (by omega)
  | x :: xs, i + 1, h => by
    have e : i + 1 + j = (i + j) + 1 := by omega
    rw [e]
    show p ∣ (x * g (i + j + 1) + co xs g (i + j)) - xs.getD i 0 * g j
    have h1 : p ∣ x := h 0 (by omega)
    have h2 := co_at hg xs i fun a ha => h (a + 1) (by omega)
    have : (x * g (i + j + 1) + co xs g (i + j)) - xs.getD i 0 * g j = x * g (i + j + 1) + (co xs g (i + j) - xs.getD i 0 * g j) := by omega
    rw [this]
    exact Int.dvd_add (Int.dvd_trans h1 (Int.dvd_mul_right _ _)) h2
theorem gcdL_of {d : Nat} {l : List Int} (h : ∀ n ∈ l, (d : Int) ∣ n) : d ∣ gcdL l := by
  have key : ∀ (l : List Int) (g : Nat), d ∣ g → (∀ n ∈ l, (d : Int) ∣ n) → d ∣ l.foldl (fun g n => Int.gcd g n) g := by
    intro l
    induction l with
    | nil => intro g hg _; exact hg
    | cons a l ih =>
      intro g hg h
      exact ih _ (Int.dvd_gcd (Int.ofNat_dvd.mpr hg) (h a List.mem_cons_self)) fun n hn => h n (List.mem_cons_of_mem _ hn)
  exact key l 0 (Nat.dvd_zero d) h
/-- the first place that a prime does not divide -/
theorem first_not {p : Nat} (hp : Pr p) {xs : List Int} (h : gcdL xs = 1) : ∃ i, (∀ a < i, (p : Int) ∣ xs.getD a 0) ∧ ¬ (p : Int) ∣ xs.getD i 0 := by
  have ex : ∃ i, ¬ (p : Int) ∣ xs.getD i 0 := by
    refine Classical.byContradiction fun z => ?_
    have : p ∣ gcdL xs := gcdL_of fun n hn => by
      obtain ⟨i, hi, rfl⟩ := List.mem_iff_getElem.mp hn
      refine Classical.byContradiction fun y => z ⟨i, ?_⟩
      rw [List.getD_eq_getElem?_getD, List.getElem?_eq_getElem hi]; exact y
    rw [h] at this
    have := Nat.dvd_one.mp this
    have := hp.1
    omega
  obtain ⟨i, hi⟩ := ex
  induction i using Nat.strongRecOn with
  | _ i ih =>
    by_cases q : ∀ a < i, (p : Int) ∣ xs.getD a 0
    · exact ⟨i, q, hi⟩
    · have : ∃ a, a < i ∧ ¬ (p : Int) ∣ xs.getD a 0 := by
        refine Classical.byContradiction fun z => q fun a ha => ?_
        exact Classical.byContradiction fun y => z ⟨a, ha, y⟩
      obtain ⟨a, ha, na⟩ := this
      exact ih a ha na
theorem dvd_getD {d : Int} {l : List Int} (h : ∀ n ∈ l, d ∣ n) (i : Nat) : d ∣ l.getD i 0 := by
  by_cases q : i < l.length
  · exact h _ (List.mem_of_getElem? (getD_at q))
  · rw [getD_ge (by omega)]; exact Int.dvd_zero d
theorem gauss1 {xs ys : List Int} (hx0 : xs ≠ []) (hx : gcdL xs = 1) (hy : gcdL ys = 1) : gcdL (conv xs ys) = 1 ∨ gcdL (conv xs ys) = 0 := by
  rcases Nat.lt_or_ge (gcdL (conv xs ys)) 2 with q | q
  · omega
  · exfalso
    obtain ⟨p, hp, hd⟩ := prime_in _ q
    obtain ⟨i, hi, ni⟩ := first_not hp hx
    obtain ⟨j, hj, nj⟩ := first_not hp hy
    have h1 := co_at (g := fn_ ys) hj xs i hi
    have h2 : (p : Int) ∣ co xs (fn_ ys) (i + j) := by
      rw [← conv_at hx0]
      exact dvd_getD (fun n hn => Int.dvd_trans (Int.ofNat_dvd.mpr hd) (gcdL_dvd hn)) _
    have h3 : (p : Int) ∣ xs.getD i 0 * fn_ ys j := by
      have := Int.dvd_sub h2 h1
      have e : co xs (fn_ ys) (i + j) - (co xs (fn_ ys) (i + j) - xs.getD i 0 * fn_ ys j) = xs.getD i 0 * fn_ ys j := by omega
      rw [e] at this; exact this
    rcases hp.mul h3 with z | z
    · exact ni z
    · exact nj z
theorem gcdL_mul (c : Int) (l : List Int) : gcdL (l.map (c * ·)) = c.natAbs * gcdL l := by
  have key : ∀ (l : List Int) (g : Nat), (l.map (c * ·)).foldl (fun g n => Int.gcd g n) (c.natAbs * g) = c.natAbs * l.foldl (fun g n => Int.gcd g n) g := by
    intro l
    induction l with
    | nil => intro g; rfl
    | cons a l ih =>
      intro g
      show (l.map (c * ·)).foldl _ (Int.gcd ((c.natAbs * g : Nat) : Int) (c * a)) = _
      have e : Int.gcd ((c.natAbs * g : Nat) : Int) (c * a) = c.natAbs * Int.gcd g a := by
        unfold Int.gcd
        rw [Int.natAbs_natCast, Int.natAbs_mul, Int.natAbs_natCast, Nat.gcd_mul_left]
      rw [e, ih]; rfl
  have := key l 0
  rw [Nat.mul_zero] at this
  exact this
theorem co_mulL (c : Int) (g : Nat → Int) : ∀ (xs : List Int) (k : Nat), co (xs.map (c * ·)) g k = c * co xs g k
  | [], _ => by show 0 = c * 0; rw [Int.mul_zero]
  | x :: xs, 0 => by show c * x * g 0 + 0 = c * (x * g 0 + 0); rw [Int.add_zero, Int.add_zero, Int.mul_assoc]
  | x :: xs, k + 1 => by
    show c * x * g (k + 1) + co (xs.map (c * ·)) g k = c * (x * g (k + 1) + co xs g k)
    rw [co_mulL c g xs k, Int.mul_add, Int.mul_assoc]
theorem conv_mulL (c : Int) {xs ys : List Int} (hx : xs ≠ []) : conv (xs.map (c * ·)) ys = (conv xs ys).map (c * ·) := by
  refine ext_getD (by rw [List.length_map, conv_len, conv_len, List.length_map]) fun n => ?_
  have e : ((conv xs ys).map (c * ·)).getD n 0 = c * (conv xs ys).getD n 0 := by
    rw [List.getD_eq_getElem?_getD, List.getD_eq_getElem?_getD, List.getElem?_map]
    cases (conv xs ys)[n]? with
    | none => show (0 : Int) = c * 0; rw [Int.mul_zero]
    | some v => rfl
  rw [e, conv_at (fun z => hx (List.map_eq_nil_iff.mp z)), conv_at hx, co_mulL]
theorem conv_mulR (c : Int) {xs ys : List Int} (hx : xs ≠ []) (hy : ys ≠ []) : conv xs (ys.map (c * ·)) = (conv xs ys).map (c * ·) := by
  have h := fun z => hy (List.map_eq_nil_iff (f := (c * ·)).mp z)
  rw [conv_comm' hx h, conv_mulL c hy, conv_comm' hy hx]
def sgn (l : List Int) : Int := if 0 < l.getLastD 0 then 1 else -1
theorem sgn_sq (l : List Int) : sgn l * sgn l = 1 := by unfold sgn; split <;> rfl
theorem sgn_abs (l : List Int) : (sgn l).natAbs = 1 := by unfold sgn; split <;> rfl
theorem plain_back (l : List Int) : (plainL l).map ((sgn l * (gcdL l : Int)) * ·) = l := by
  unfold plainL
  rw [List.map_map]
  conv => rhs; rw [← List.map_id l]
  refine List.map_congr_left fun n hn => ?_
  obtain ⟨c, hc⟩ := gcdL_dvd hn
  have e : (gcdL l : Int) * (n / (gcdL l : Int)) = n := Int.mul_ediv_cancel' (gcdL_dvd hn)
  show (sgn l * (gcdL l : Int)) * (if 0 < l.getLastD 0 then n / (gcdL l : Int) else -(n / (gcdL l : Int))) = n
  unfold sgn
  split
  · rw [Int.one_mul, e]
  · rw [Int.mul_neg, Int.neg_mul, Int.neg_mul, Int.one_mul, Int.neg_neg, e]
theorem okR_plain {xs : List Int} (h : OkR xs) : OkR (plainL xs) := by
  refine okR_nz h (List.length_map _) fun n z y hz hy ny => ?_
  have hb := plain_back xs
  have : ((plainL xs).map ((sgn xs * (gcdL xs : Int)) * ·))[n]? = some ((sgn xs * (gcdL xs : Int)) * z) := by rw [List.getElem?_map, hz]; rfl
  rw [hb, hy] at this
  intro q
  rw [q, Int.mul_zero] at this
  cases this
  exact ny rfl
theorem plain_bd {xs : List Int} {B : Nat} (h : ∀ x ∈ xs, x.natAbs ≤ B) : ∀ z ∈ plainL xs, z.natAbs ≤ B := fun z hz => by
  obtain ⟨n, hn, rfl⟩ := List.mem_map.mp hz
  have hb := h n hn
  have : (n / (gcdL xs : Int)).natAbs ≤ n.natAbs := Int.natAbs_ediv_le_natAbs ..
  split
  · omega
  · rw [Int.natAbs_neg]; omega
theorem gcd_plain {xs : List Int} (h : OkR xs) : gcdL (plainL xs) = 1 := by
  have hb := plain_back xs
  have hg := gcdL_mul (sgn xs * (gcdL xs : Int)) (plainL xs)
  rw [hb, Int.natAbs_mul, sgn_abs, Int.natAbs_natCast, Nat.one_mul] at hg
  have hp := gcdL_pos h.last.1 h.last.2.1
  exact Nat.eq_of_mul_eq_mul_left hp (by rw [← hg, Nat.mul_one])
theorem conv_scaled {xs ys : List Int} (hx : OkR xs) (hy : OkR ys) : conv xs ys = (conv (plainL xs) (plainL ys)).map (((sgn xs * (gcdL xs : Int)) * (sgn ys * (gcdL ys : Int))) * ·) := by
  have h1 := plain_back xs
  have h2 := plain_back ys
  have nx := (okR_plain hx).ne
  have ny := (okR_plain hy).ne
  conv => lhs; rw [← h1, ← h2]
  rw [conv_mulL _ nx, conv_mulR _ nx ny, List.map_map]
  refine List.map_congr_left fun n _ => ?_
  exact (Int.mul_assoc _ _ n).symm
theorem gcd_prim {xs ys : List Int} (hx : OkR xs) (hy : OkR ys) : gcdL (conv (plainL xs) (plainL ys)) = 1 := by
  have ok := okR_conv (okR_plain hx) (okR_plain hy)
  have hp := gcdL_pos ok.last.1 ok.last.2.1
  rcases gauss1 (okR_plain hx).ne (gcd_plain hx) (gcd_plain hy) with z | z
  · exact z
  · omega
theorem gauss {xs ys : List Int} (hx : OkR xs) (hy : OkR ys) : gcdL (conv xs ys) = gcdL xs * gcdL ys := by
  rw [conv_scaled hx hy, gcdL_mul, gcd_prim hx hy, Nat.mul_one, Int.natAbs_mul, Int.natAbs_mul, Int.natAbs_mul, sgn_abs, sgn_abs, Int.natAbs_natCast, Int.natAbs_natCast, Nat.one_mul, Nat.one_mul]
theorem sgn_conv {xs ys : List Int} (hx : OkR xs) (hy : OkR ys) : sgn (conv xs ys) = sgn xs * sgn ys := by
  have nx := hx.last.2.1
  have ny := hy.last.2.1
  unfold sgn
  rw [last_conv hx.ne hy.ne]
  by_cases a : 0 < xs.getLastD 0 <;> by_cases b : 0 < ys.getLastD 0
  · rw [if_pos a, if_pos b, if_pos (Int.mul_pos a b)]; rfl
  · rw [if_pos a, if_neg b, if_neg (by have := Int.mul_neg_of_pos_of_neg a (show ys.getLastD 0 < 0 by omega); omega)]; rfl
  · rw [if_neg a, if_pos b, if_neg (by have := Int.mul_neg_of_neg_of_pos (show xs.getLastD 0 < 0 by omega) b; omega)]; rfl
  · rw [if_neg a, if_neg b, if_pos (Int.mul_pos_of_neg_of_neg (by omega) (by omega))]; rfl
theorem conv_plain {xs ys : List Int} (hx : OkR xs) (hy : OkR ys) : conv (plainL xs) (plainL ys) = plainL (conv xs ys) := by
  have h1 := plain_back (conv xs ys)
  have h2 := conv_scaled hx hy
  rw [gauss hx hy, sgn_conv hx hy] at h1
  have px := gcdL_pos hx.last.1 hx.last.2.1
  have py := gcdL_pos hy.last.1 hy.last.2.1
  have e : (sgn xs * (gcdL xs : Int)) * (sgn ys * (gcdL ys : Int)) = sgn xs * sgn ys * ((gcdL xs * gcdL ys : Nat) : Int) := by
    rw [Int.natCast_mul]
    rw [Int.mul_assoc, Int.mul_assoc, ← Int.mul_assoc (gcdL xs : Int), Int.mul_comm (gcdL xs : Int) (sgn ys), Int.mul_assoc]
  rw [e] at h2
  have n0 : sgn xs * sgn ys * ((gcdL xs * gcdL ys : Nat) : Int) ≠ 0 := by
    intro z
    have := congrArg Int.natAbs z
    rw [Int.natAbs_mul, Int.natAbs_mul, sgn_abs, sgn_abs, Int.natAbs_natCast, Nat.one_mul] at this
    have e0 : gcdL xs * gcdL ys = 0 := this
    have := Nat.mul_pos px py
    omega
  have h3 := h2.symm.trans h1.symm
  refine List.map_inj_right (fun a b hab => ?_) |>.mp h3
  exact Int.eq_of_mul_eq_mul_left n0 hab
theorem ok_conv {xs ys : List Int} (hx : OkS xs) (hy : OkS ys) (hl : xs.length + ys.length ≤ 42) : OkS (conv xs ys) := (okR_conv hx.r hy.r).s (by rw [conv_len]; omega)
end K17

namespace K17
open PySem L2 PL
open He (ga ma)
def top (i : Nat) : Stmt := PySem.Challenge.pw_spanalike_k17_whole_products_plain_and_t.main.body.getD i (.Pass ⟨0, 0, 0, 0⟩)
def inCls : Stmt → Nat → Stmt := fun s j => inClass s j
structure Fx (K : PySem.W.Frag) (mg : Str → Option Value) : Prop where
  d_is_integer : ∃ fd, FunD K "is_integer" "is_integer" (defArgs (top 10)) (defBody (top 10)) (defScope (top 10)) [] [] (ga K "is_integer") fd
  g_is_integer : mg "is_integer" = some (.ref (ga K "is_integer"))
  k_is_integer : PySem.W.keepIn K (.ref (ga K "is_integer")) = true
  d_is_within : ∃ fd, FunD K "is_within" "is_within" (defArgs (top 11)) (defBody (top 11)) (defScope (top 11)) [] [] (ga K "is_within") fd
  g_is_within : mg "is_within" = some (.ref (ga K "is_within"))
  k_is_within : PySem.W.keepIn K (.ref (ga K "is_within")) = true
  d_is_listed : ∃ fd, FunD K "is_listed" "is_listed" (defArgs (top 12)) (defBody (top 12)) (defScope (top 12)) [] [] (ga K "is_listed") fd
  g_is_listed : mg "is_listed" = some (.ref (ga K "is_listed"))
  k_is_listed : PySem.W.keepIn K (.ref (ga K "is_listed")) = true
  d_are_integers : ∃ fd, FunD K "are_integers" "are_integers" (defArgs (top 13)) (defBody (top 13)) (defScope (top 13)) [] [] (ga K "are_integers") fd
  g_are_integers : mg "are_integers" = some (.ref (ga K "are_integers"))
  k_are_integers : PySem.W.keepIn K (.ref (ga K "are_integers")) = true
  d_need_number : ∃ fd, FunD K "need_number" "need_number" (defArgs (top 15)) (defBody (top 15)) (defScope (top 15)) [] [] (ga K "need_number") fd
  g_need_number : mg "need_number" = some (.ref (ga K "need_number"))
  k_need_number : PySem.W.keepIn K (.ref (ga K "need_number")) = true
  d_measure_of : ∃ fd, FunD K "measure_of" "measure_of" (defArgs (top 16)) (defBody (top 16)) (defScope (top 16)) [] [] (ga K "measure_of") fd
  g_measure_of : mg "measure_of" = some (.ref (ga K "measure_of"))
  k_measure_of : PySem.W.keepIn K (.ref (ga K "measure_of")) = true
  d_need_strip : ∃ fd, FunD K "need_strip" "need_strip" (defArgs (top 23)) (defBody (top 23)) (defScope (top 23)) [] [] (ga K "need_strip") fd
  g_need_strip : mg "need_strip" = some (.ref (ga K "need_strip"))
  k_need_strip : PySem.W.keepIn K (.ref (ga K "need_strip")) = true
  d_need_length : ∃ fd, FunD K "need_length" "need_length" (defArgs (top 24)) (defBody (top 24)) (defScope (top 24)) [] [] (ga K "need_length") fd
  g_need_length : mg "need_length" = some (.ref (ga K "need_length"))
  k_need_length : PySem.W.keepIn K (.ref (ga K "need_length")) = true
  d_multiplied : ∃ fd, FunD K "multiplied" "multiplied" (defArgs (top 25)) (defBody (top 25)) (defScope (top 25)) [] [] (ga K "multiplied") fd
  g_multiplied : mg "multiplied" = some (.ref (ga K "multiplied"))
  k_multiplied : PySem.W.keepIn K (.ref (ga K "multiplied")) = true
  d_measure_in : ∃ fd, FunD K "measure_in" "measure_in" (defArgs (top 28)) (defBody (top 28)) (defScope (top 28)) [] [] (ga K "measure_in") fd
  g_measure_in : mg "measure_in" = some (.ref (ga K "measure_in"))
  k_measure_in : PySem.W.keepIn K (.ref (ga K "measure_in")) = true
  d_is_plain : ∃ fd, FunD K "is_plain" "is_plain" (defArgs (top 29)) (defBody (top 29)) (defScope (top 29)) [] [] (ga K "is_plain") fd
  g_is_plain : mg "is_plain" = some (.ref (ga K "is_plain"))
  k_is_plain : PySem.W.keepIn K (.ref (ga K "is_plain")) = true
  d_reads_same : ∃ fd, FunD K "reads_same" "reads_same" (defArgs (top 30)) (defBody (top 30)) (defScope (top 30)) [] [] (ga K "reads_same") fd
  g_reads_same : mg "reads_same" = some (.ref (ga K "reads_same"))
  k_reads_same : PySem.W.keepIn K (.ref (ga K "reads_same")) = true
  d__law_tin : ∃ fd, FunD K "_law_tin" "_law_tin" (defArgs (top 32)) (defBody (top 32)) (defScope (top 32)) [] [] (ga K "_law_tin") fd
  g__law_tin : mg "_law_tin" = some (.ref (ga K "_law_tin"))
  k__law_tin : PySem.W.keepIn K (.ref (ga K "_law_tin")) = true
  d__law_roll : ∃ fd, FunD K "_law_roll" "_law_roll" (defArgs (top 33)) (defBody (top 33)) (defScope (top 33)) [] [] (ga K "_law_roll") fd
  g__law_roll : mg "_law_roll" = some (.ref (ga K "_law_roll"))
  k__law_roll : PySem.W.keepIn K (.ref (ga K "_law_roll")) = true
  d__law_pick : ∃ fd, FunD K "_law_pick" "_law_pick" (defArgs (top 34)) (defBody (top 34)) (defScope (top 34)) [] [] (ga K "_law_pick") fd
  g__law_pick : mg "_law_pick" = some (.ref (ga K "_law_pick"))
  k__law_pick : PySem.W.keepIn K (.ref (ga K "_law_pick")) = true
  d__law_any : ∃ fd, FunD K "_law_any" "_law_any" (defArgs (top 35)) (defBody (top 35)) (defScope (top 35)) [] [] (ga K "_law_any") fd
  g__law_any : mg "_law_any" = some (.ref (ga K "_law_any"))
  k__law_any : PySem.W.keepIn K (.ref (ga K "_law_any")) = true
  d__law_gcd : ∃ fd, FunD K "_law_gcd" "_law_gcd" (defArgs (top 36)) (defBody (top 36)) (defScope (top 36)) [] [] (ga K "_law_gcd") fd
  g__law_gcd : mg "_law_gcd" = some (.ref (ga K "_law_gcd"))
  k__law_gcd : PySem.W.keepIn K (.ref (ga K "_law_gcd")) = true
  d__law_gcd_of : ∃ fd, FunD K "_law_gcd_of" "_law_gcd_of" (defArgs (top 37)) (defBody (top 37)) (defScope (top 37)) [] [] (ga K "_law_gcd_of") fd
  g__law_gcd_of : mg "_law_gcd_of" = some (.ref (ga K "_law_gcd_of"))
  k__law_gcd_of : PySem.W.keepIn K (.ref (ga K "_law_gcd_of")) = true
  d__law_run_of : ∃ fd, FunD K "_law_run_of" "_law_run_of" (defArgs (top 38)) (defBody (top 38)) (defScope (top 38)) [] [] (ga K "_law_run_of") fd
  g__law_run_of : mg "_law_run_of" = some (.ref (ga K "_law_run_of"))
  k__law_run_of : PySem.W.keepIn K (.ref (ga K "_law_run_of")) = true
  d__law_strip : ∃ fd, FunD K "_law_strip" "_law_strip" (defArgs (top 39)) (defBody (top 39)) (defScope (top 39)) [] [] (ga K "_law_strip") fd
  g__law_strip : mg "_law_strip" = some (.ref (ga K "_law_strip"))
  k__law_strip : PySem.W.keepIn K (.ref (ga K "_law_strip")) = true
  d__law_plain : ∃ fd, FunD K "_law_plain" "_law_plain" (defArgs (top 40)) (defBody (top 40)) (defScope (top 40)) [] [] (ga K "_law_plain") fd
  g__law_plain : mg "_law_plain" = some (.ref (ga K "_law_plain"))
  k__law_plain : PySem.W.keepIn K (.ref (ga K "_law_plain")) = true
  d__law_same : ∃ fd, FunD K "_law_same" "_law_same" (defArgs (top 41)) (defBody (top 41)) (defScope (top 41)) [] [] (ga K "_law_same") fd
  g__law_same : mg "_law_same" = some (.ref (ga K "_law_same"))
  k__law_same : PySem.W.keepIn K (.ref (ga K "_law_same")) = true
  d__law_is_same : ∃ fd, FunD K "_law_is_same" "_law_is_same" (defArgs (top 42)) (defBody (top 42)) (defScope (top 42)) [] [] (ga K "_law_is_same") fd
  g__law_is_same : mg "_law_is_same" = some (.ref (ga K "_law_is_same"))
  k__law_is_same : PySem.W.keepIn K (.ref (ga K "_law_is_same")) = true
  d_law : ∃ fd, FunD K "law" "law" (defArgs (top 43)) (defBody (top 43)) (defScope (top 43)) [] [] (ga K "law") fd
  g_law : mg "law" = some (.ref (ga K "law"))
  k_law : PySem.W.keepIn K (.ref (ga K "law")) = true
  d_Strip___init__ : ∃ fd, FunD K "__init__" "Strip.__init__" (defArgs (inClass (top 26) 0)) (defBody (inClass (top 26) 0)) (defScope (inClass (top 26) 0)) [] [] (ma K (ga K "Strip") "__init__") fd
  d_Strip_at : ∃ fd, FunD K "at" "Strip.at" (defArgs (inClass (top 26) 3)) (defBody (inClass (top 26) 3)) (defScope (inClass (top 26) 3)) [] [] (ma K (ga K "Strip") "at") fd
  m_Strip_at : Meth K (ga K "Strip") "at" (ma K (ga K "Strip") "at")
  d_Strip_backward : ∃ fd, FunD K "backward" "Strip.backward" (defArgs (inClass (top 26) 4)) (defBody (inClass (top 26) 4)) (defScope (inClass (top 26) 4)) [] [] (ma K (ga K "Strip") "backward") fd
  m_Strip_backward : Meth K (ga K "Strip") "backward" (ma K (ga K "Strip") "backward")
  d_Strip_product : ∃ fd, FunD K "product" "Strip.product" (defArgs (inClass (top 26) 6)) (defBody (inClass (top 26) 6)) (defScope (inClass (top 26) 6)) [] [] (ma K (ga K "Strip") "product") fd
  m_Strip_product : Meth K (ga K "Strip") "product" (ma K (ga K "Strip") "product")
  d_Strip___eq__ : ∃ fd, FunD K "__eq__" "Strip.__eq__" (defArgs (inClass (top 26) 7)) (defBody (inClass (top 26) 7)) (defScope (inClass (top 26) 7)) [] [] (ma K (ga K "Strip") "__eq__") fd
  g_Strip : mg "Strip" = some (.ref (ga K "Strip"))
  c_Strip : Cls K (ga K "Strip")
  k_Strip : Mk K (ga K "Strip") (ma K (ga K "Strip") "__init__")
  e_Strip : PySem.W.findIn K (.ref (ga K "Strip")) "__eq__" = some (some (.ref (ma K (ga K "Strip") "__eq__"))) ∧ PySem.W.isFn K (.ref (ma K (ga K "Strip") "__eq__")) = true ∧ PySem.W.findIn K (.ref (ga K "Strip")) "__ne__" = some (some (.builtin "object.__ne__")) ∧ PySem.W.mroIn K (ga K "Strip") (.type "object") = some true
  b_isinstance : mg "isinstance" = none
  b_int : mg "int" = none
  b_bool : mg "bool" = none
  b_list : mg "list" = none
  b_tuple : mg "tuple" = none
  b_len : mg "len" = none
  b_abs : mg "abs" = none
  b_all : mg "all" = none
  b_any : mg "any" = none
  b_sum : mg "sum" = none
  b_range : mg "range" = none
  b_enumerate : mg "enumerate" = none
  b_repr : mg "repr" = none
  i_MOST_LENGTH : ∃ t, mg "MOST_LENGTH" = some (.int 40 t)
  f_numbers : Flds K mg (sel1 [(0, 0)]) "numbers"
  f_length : Flds K mg (sel1 [(0, 1)]) "length"
  f_total : Flds K mg (sel1 [(0, 2)]) "total"
  f_is_lot : Flds K mg (sel1 [(0, 3)]) "is_lot"
  f_marks : Flds K mg (sel1 [(0, 4)]) "marks"
  s_int : IsiOk ⟨K, mg⟩ [.type "int"] (Ty7.at_ { int := true, bl := true }) (fun c => List.lookup c [(0, false)])
  s_bool : IsiOk ⟨K, mg⟩ [.type "bool"] (Ty7.at_ { bl := true }) (fun c => List.lookup c [(0, false)])
  s_listtuple : IsiOk ⟨K, mg⟩ [.type "list", .type "tuple"] (Ty7.at_ { lst := true, tup := true }) (fun c => List.lookup c [(0, false)])
  s_Strip : IsiOk ⟨K, mg⟩ [.ref (ga K "Strip")] (Ty7.at_ {}) (fun c => List.lookup c [(0, true)])
section
variable {P : Program} {w : World} {K : PySem.W.Frag} {mg : Str → Option Value} {base : Heap}
def φ_is_integer : PCt := fun as Q => ∃ i : Int, as = [.sh (.int i)] ∧ Q false (.bl true) as
theorem is_integer_at (T : Fx K mg) {fd : FuncData} (F : FunD K "is_integer" "is_integer" (defArgs (top 10)) (defBody (top 10)) (defScope (top 10)) [] [] (ga K "is_integer") fd) : FnOk P w K mg base CX0 1 (ga K "is_integer") fd ["value"] (spOf ⟨K, mg⟩ 1 false φ_is_integer) := by
  have S : FnScope ["value"] ["value"] (defScope (top 10)) := C8.fnScope_by (by kernel_rfl)
  refine funD_ok (n := 0) F S rfl fun cdv A outer s H E hr => ⟨_, (qss_one (qs_ret (qe_and (qe_isi1 T.s_int (.ty _) (qe_ty T.b_int boot_int) T.b_isinstance (qv 0)) (qe_one (qe_not (qe_isi1 T.s_bool (.ty _) (qe_ty T.b_bool boot_bool) T.b_isinstance (qv 0))))))), fun as Q0 h => ?_⟩
  obtain ⟨i, rfl, hQ⟩ := h
  exact ⟨true, rfl, fun _ => ⟨false, rfl, trivial, hQ⟩, nofun⟩
theorem is_integer_ok (T : Fx K mg) : Cal P w K mg base 1 "is_integer" 1 false φ_is_integer := by
  obtain ⟨fd, F⟩ := T.d_is_integer
  exact ⟨⟨fd, _, is_integer_at T F, F.bindsN fun _ _ _ _ _ _ us hl => match us, hl with | [_], _ => rfl⟩, T.g_is_integer, T.k_is_integer⟩
def φ_is_within : PCt := fun as Q => ∃ i : Int, as = [.sh (.int i), .sh .non, .sh .non] ∧ Q false (.bl true) as
theorem is_within_at (T : Fx K mg) {fd : FuncData} (F : FunD K "is_within" "is_within" (defArgs (top 11)) (defBody (top 11)) (defScope (top 11)) [] [] (ga K "is_within") fd) : FnOk P w K mg base CX0 2 (ga K "is_within") fd ["value", "least", "most"] (spOf ⟨K, mg⟩ 3 false φ_is_within) := by
  have S : FnScope ["value", "least", "most"] ["value", "least", "most"] (defScope (top 11)) := C8.fnScope_by (by kernel_rfl)
  refine funD_ok (n := 0) F S rfl fun cdv A outer s H E hr => ⟨_, (qss_cons (qs_if (qt_not (qt_val (qc (is_integer_ok T) hr (qa_cons (qv 0) (qa_nil))))) (qss_one (qs_ret qe_bl)) qss_nil)
      (qss_one (qs_ret (qe_and (qe_or (qe_cmp op_isN sim_isN (qv 1) qe_non (nomark _)) (qe_one (qe_cmp op_ge sim_B0 (qv 0) (qv 1) (nomark _)))) (qe_one (qe_or (qe_cmp op_isN sim_isN (qv 2) qe_non (nomark _)) (qe_one (qe_cmp op_le sim_B0 (qv 0) (qv 2) (nomark _))))))))), fun as Q0 h => ?_⟩
  obtain ⟨i, rfl, hQ⟩ := h
  exact ⟨rfl, i, rfl, nofun, fun _ => ⟨fun _ => ⟨fun _ => ⟨fun _ => ⟨trivial, hQ⟩, nofun⟩, nofun⟩, nofun⟩⟩
theorem is_within_ok (T : Fx K mg) : Cal P w K mg base 2 "is_within" 3 false φ_is_within := by
  obtain ⟨fd, F⟩ := T.d_is_within
  exact ⟨⟨fd, _, is_within_at T F, F.bindsN fun _ _ _ _ _ _ us hl => match us, hl with | [_, _, _], _ => rfl⟩, T.g_is_within, T.k_is_within⟩
def φ_is_listed : PCt := fun as Q => ∃ xs : List D, (as = [.sh (.lst xs)] ∨ as = [.sh (.tup xs)]) ∧ Q false (.bl true) as
theorem is_listed_at (T : Fx K mg) {fd : FuncData} (F : FunD K "is_listed" "is_listed" (defArgs (top 12)) (defBody (top 12)) (defScope (top 12)) [] [] (ga K "is_listed") fd) : FnOk P w K mg base CX0 1 (ga K "is_listed") fd ["value"] (spOf ⟨K, mg⟩ 1 false φ_is_listed) := by
  have S : FnScope ["value"] ["value"] (defScope (top 12)) := C8.fnScope_by (by kernel_rfl)
  refine funD_ok (n := 0) F S rfl fun cdv A outer s H E hr => ⟨_, (qss_one (qs_ret (qe_isi2 T.s_listtuple (.ty _) (.ty _) (qe_ty T.b_list boot_list) (qe_ty T.b_tuple boot_tuple) T.b_isinstance (qv 0)))), fun as Q0 h => ?_⟩
  obtain ⟨xs, rfl | rfl, hQ⟩ := h
  · exact ⟨true, rfl, trivial, hQ⟩
  · exact ⟨true, rfl, trivial, hQ⟩
theorem is_listed_ok (T : Fx K mg) : Cal P w K mg base 1 "is_listed" 1 false φ_is_listed := by
  obtain ⟨fd, F⟩ := T.d_is_listed
  exact ⟨⟨fd, _, is_listed_at T F, F.bindsN fun _ _ _ _ _ _ us hl => match us, hl with | [_], _ => rfl⟩, T.g_is_listed, T.k_is_listed⟩
def φ_are_integers : PCt := fun as Q => ∃ ns : List Int, (as = [.sh (.lst (is ns))] ∨ as = [.sh (.tup (is ns))]) ∧ ns.length ≤ sizeLine ∧ Q false (.bl true) as
theorem are_integers_at (T : Fx K mg) {fd : FuncData} (F : FunD K "are_integers" "are_integers" (defArgs (top 13)) (defBody (top 13)) (defScope (top 13)) [] [] (ga K "are_integers") fd) : FnOk P w K mg base CX0 2 (ga K "are_integers") fd ["value"] (spOf ⟨K, mg⟩ 1 false φ_are_integers) := by
  have S : FnScope ["value", "each"] ["value"] (defScope (top 13)) := C8.fnScope_by (by kernel_rfl)
  refine funD_ok (n := 1) F S rfl fun cdv A outer s H E hr => ⟨_, (qss_one (qs_ret (qe_and (qc (is_listed_ok T) hr (qa_cons (qv 0) (qa_nil))) (qe_one (qe_callB (cr_all (by rfl)) sim_all (by rfl) T.b_all boot_all (qa_cons (qe_lc (own := [("each", 1)]) (by rfl) S.nd (qi_seq (qv 0)) (blk_of (by kernel_rfl)) (fun _ _ _ _ _ => (qg_name (i := 1) S.nd (by rfl) (by first | exact Or.inl rfl | exact Or.inr rfl))) (fun _ _ _ _ _ => qts_nil) (fun _ _ _ _ _ => (qc (is_integer_ok T) hr (qa_cons (qv 1) (qa_nil))))) (qa_nil))))))), fun as Q0 h => ?_⟩
  have all : ∀ ns : List Int, (ns.map fun _ => true).all id = true := fun ns => by induction ns <;> simp_all
  obtain ⟨ns, rfl | rfl, hz, hQ⟩ := h
  · refine ⟨rfl, is ns, .inl rfl, fun _ => ?_, nofun⟩
    refine lc1 (fun _ => .bl true) (by rw [is_map_len]; exact hz) (fun x K hx hK => ?_) ?_
    · obtain ⟨i, _, rfl⟩ := List.mem_map.mp hx
      exact ⟨rfl, i, rfl, hK⟩
    · refine ⟨ns.map fun _ => true, by simp [is], ?_⟩
      rw [all]; exact ⟨trivial, hQ⟩
  · refine ⟨rfl, is ns, .inr rfl, fun _ => ?_, nofun⟩
    refine lc1 (fun _ => .bl true) (by rw [is_map_len]; exact hz) (fun x K hx hK => ?_) ?_
    · obtain ⟨i, _, rfl⟩ := List.mem_map.mp hx
      exact ⟨rfl, i, rfl, hK⟩
    · refine ⟨ns.map fun _ => true, by simp [is], ?_⟩
      rw [all]; exact ⟨trivial, hQ⟩
theorem are_integers_ok (T : Fx K mg) : Cal P w K mg base 2 "are_integers" 1 false φ_are_integers := by
  obtain ⟨fd, F⟩ := T.d_are_integers
  exact ⟨⟨fd, _, are_integers_at T F, F.bindsN fun _ _ _ _ _ _ us hl => match us, hl with | [_], _ => rfl⟩, T.g_are_integers, T.k_are_integers⟩
def φ_need_number : PCt := fun as Q => ∃ (i : Int) (d : D), as = [.sh (.int i), .sh d, .sh .non, .sh .non] ∧ Q false .non as
theorem need_number_at (T : Fx K mg) {fd : FuncData} (F : FunD K "need_number" "need_number" (defArgs (top 15)) (defBody (top 15)) (defScope (top 15)) [] [] (ga K "need_number") fd) : FnOk P w K mg base CX0 3 (ga K "need_number") fd ["value", "part", "least", "most"] (spOf ⟨K, mg⟩ 4 false φ_need_number) := by
  have S : FnScope ["value", "part", "least", "most"] ["value", "part", "least", "most"] (defScope (top 15)) := C8.fnScope_by (by kernel_rfl)
  refine funD_ok (n := 0) F S rfl fun cdv A outer s H E hr => ⟨_, (qss_one (qs_if (qt_not (qt_val (qc (is_within_ok T) hr (qa_cons (qv 0) (qa_cons (qv 2) (qa_cons (qv 3) (qa_nil))))))) qss_never qss_nil)), fun as Q0 h => ?_⟩
  obtain ⟨i, d, rfl, hQ⟩ := h
  exact ⟨rfl, i, rfl, nofun, fun _ => ⟨trivial, hQ⟩⟩
theorem need_number_ok (T : Fx K mg) : Cal P w K mg base 3 "need_number" 4 false φ_need_number := by
  obtain ⟨fd, F⟩ := T.d_need_number
  exact ⟨⟨fd, _, need_number_at T F, F.bindsN fun _ _ _ _ _ _ us hl => match us, hl with | [_, _, _, _], _ => rfl⟩, T.g_need_number, T.k_need_number⟩
def φ_measure_of : PCt := fun as Q => ∃ a b : Int, as = [.sh (.int a), .sh (.int b)] ∧ Q false (.int (Int.gcd a b)) as
theorem measure_of_at (T : Fx K mg) {fd : FuncData} (F : FunD K "measure_of" "measure_of" (defArgs (top 16)) (defBody (top 16)) (defScope (top 16)) [] [] (ga K "measure_of") fd) : FnOk P w K mg base CX0 1 (ga K "measure_of") fd ["one", "other"] (spOf ⟨K, mg⟩ 2 false φ_measure_of) := by
  have S : FnScope ["one", "other"] ["one", "other"] (defScope (top 16)) := C8.fnScope_by (by kernel_rfl)
  refine funD_ok (n := 0) F S rfl fun cdv A outer s H E hr => ⟨_, (qss_cons (qs_par (i := 0) (j := 1) (by rfl) S.nd (by rfl) (by rfl) (by decide) (by rfl) (by rfl) (qa_cons (qe_callB call_abs sim_abs (by rfl) T.b_abs boot_abs (qa_cons (qv 0) (qa_nil))) (qa_cons (qe_callB call_abs sim_abs (by rfl) T.b_abs boot_abs (qa_cons (qv 1) (qa_nil))) (qa_nil))) (by rfl))
      (qss_cons (qs_while PassesOwn.never (qt_cmp op_gt sim_B0 (qv 1) qe_int (nomark _)) (qss_one (qs_par (i := 0) (j := 1) (by rfl) S.nd (by rfl) (by rfl) (by decide) (by rfl) (by rfl) (qa_cons (qv 1) (qa_cons (qe_mod (qv 0) (qv 1)) (qa_nil))) (by rfl))))
      (qss_one (qs_ret (qv 0))))), fun as Q0 h => ?_⟩
  obtain ⟨a, b, rfl, hQ⟩ := h
  have ab : ∀ i : Int, (if i < 0 then -i else i) = (i.natAbs : Int) := fun i => by split <;> omega
  refine ⟨⟨fun m Γ => ∃ x y : Int, Γ = [.sh (.int x), .sh (.int y)] ∧ 0 ≤ x ∧ 0 ≤ y ∧ y.toNat = m ∧ Int.gcd x y = Int.gcd a b, ⟨_, _, Wk.refl _, _, _, rfl, ?_, ?_, rfl, ?_⟩, fun m Γ hW => ?_⟩⟩
  · rw [ab]; omega
  · rw [ab]; omega
  · rw [ab, ab]; simp [Int.gcd]
  obtain ⟨x, y, rfl, hx, hy, rfl, hg⟩ := hW
  refine ⟨fun hb => ?_, fun hb => ?_⟩
  · have hb : 0 < y := of_decide_eq_true hb
    have h1 := Int.emod_nonneg x (show y ≠ 0 by omega)
    have h2 := Int.emod_lt_of_pos x hb
    refine ⟨hb, _, ?_, _, Wk.refl _, y, x % y, rfl, hy, h1, rfl, ?_⟩
    · omega
    · rw [← hg, Int.gcd_comm x y]
      exact gcd_mod x y
  · have hb : y = 0 := by have := of_decide_eq_false hb; omega
    refine ⟨trivial, ?_⟩
    have e : x = (Int.gcd a b : Nat) := by rw [← hg, hb, Int.gcd_zero_right]; omega
    show Q0 false (.int x) _
    rw [e]; exact hQ
theorem measure_of_ok (T : Fx K mg) : Cal P w K mg base 1 "measure_of" 2 false φ_measure_of := by
  obtain ⟨fd, F⟩ := T.d_measure_of
  exact ⟨⟨fd, _, measure_of_at T F, F.bindsN fun _ _ _ _ _ _ us hl => match us, hl with | [_, _], _ => rfl⟩, T.g_measure_of, T.k_measure_of⟩
def φ_need_strip : PCt := fun as Q => ∃ (xs : List D) (d : D), as = [.sh (.ins 0 xs), .sh d] ∧ Q false .non as
theorem need_strip_at (T : Fx K mg) {fd : FuncData} (F : FunD K "need_strip" "need_strip" (defArgs (top 23)) (defBody (top 23)) (defScope (top 23)) [] [] (ga K "need_strip") fd) : FnOk P w K mg base CX0 1 (ga K "need_strip") fd ["value", "part"] (spOf ⟨K, mg⟩ 2 false φ_need_strip) := by
  have S : FnScope ["value", "part"] ["value", "part"] (defScope (top 23)) := C8.fnScope_by (by kernel_rfl)
  refine funD_ok (n := 0) F S rfl fun cdv A outer s H E hr => ⟨_, (qss_one (qs_if (qt_not (qt_val (qe_isi1 T.s_Strip (.own _) (qe_cls T.g_Strip) T.b_isinstance (qv 0)))) qss_never qss_nil)), fun as Q0 h => ?_⟩
  obtain ⟨xs, d, rfl, hQ⟩ := h
  exact ⟨true, rfl, nofun, fun _ => ⟨trivial, hQ⟩⟩
theorem need_strip_ok (T : Fx K mg) : Cal P w K mg base 1 "need_strip" 2 false φ_need_strip := by
  obtain ⟨fd, F⟩ := T.d_need_strip
  exact ⟨⟨fd, _, need_strip_at T F, F.bindsN fun _ _ _ _ _ _ us hl => match us, hl with | [_, _], _ => rfl⟩, T.g_need_strip, T.k_need_strip⟩
def φ_need_length : PCt := fun as Q => ∃ i j : Int, as = [.sh (.int i), .sh (.int j)] ∧ i ≤ j ∧ Q false .non as
theorem need_length_at (T : Fx K mg) {fd : FuncData} (F : FunD K "need_length" "need_length" (defArgs (top 24)) (defBody (top 24)) (defScope (top 24)) [] [] (ga K "need_length") fd) : FnOk P w K mg base CX0 1 (ga K "need_length") fd ["length", "most"] (spOf ⟨K, mg⟩ 2 false φ_need_length) := by
  have S : FnScope ["length", "most"] ["length", "most"] (defScope (top 24)) := C8.fnScope_by (by kernel_rfl)
  refine funD_ok (n := 0) F S rfl fun cdv A outer s H E hr => ⟨_, (qss_one (qs_if (qt_cmp op_gt sim_B0 (qv 0) (qv 1) (nomark _)) qss_never qss_nil)), fun as Q0 h => ?_⟩
  obtain ⟨i, j, rfl, hij, hQ⟩ := h
  exact ⟨fun z => absurd (of_decide_eq_true z) (by omega), fun _ => ⟨trivial, hQ⟩⟩
theorem need_length_ok (T : Fx K mg) : Cal P w K mg base 1 "need_length" 2 false φ_need_length := by
  obtain ⟨fd, F⟩ := T.d_need_length
  exact ⟨⟨fd, _, need_length_at T F, F.bindsN fun _ _ _ _ _ _ us hl => match us, hl with | [_, _], _ => rfl⟩, T.g_need_length, T.k_need_length⟩
def φ_multiplied : PCt := fun as Q => ∃ xs ys : List Int, as = [.sh (.tup (is xs)), .sh (.tup (is ys))] ∧ xs ≠ [] ∧ ys ≠ [] ∧ xs.length + ys.length ≤ 100 ∧ (∀ x ∈ xs, x.natAbs < 2 ^ 64) ∧ Q false (.tup (is (conv xs ys))) as
theorem multiplied_at (T : Fx K mg) {fd : FuncData} (F : FunD K "multiplied" "multiplied" (defArgs (top 25)) (defBody (top 25)) (defScope (top 25)) [] [] (ga K "multiplied") fd) : FnOk P w K mg base CX0 1 (ga K "multiplied") fd ["one", "other"] (spOf ⟨K, mg⟩ 2 false φ_multiplied) := by
  have S : FnScope ["one", "other", "found", "at", "mine", "spot", "its"] ["one", "other"] (defScope (top 25)) := C8.fnScope_by (by kernel_rfl)
  refine funD_ok (n := 5) F S rfl fun cdv A outer s H E hr => ⟨_, (qss_cons (qs_set (i := 2) S.nd (by rfl) (by first | exact Or.inl rfl | exact Or.inr rfl) (qe_mul (qe_lst (qa_cons qe_int (qa_nil))) (qe_sub (qe_add (qe_len rfl (by rfl) T.b_len (qa_cons (qv 0) (qa_nil))) (qe_len rfl (by rfl) T.b_len (qa_cons (qv 1) (qa_nil)))) qe_int)))
      (qss_cons (qs_for PassesOwn.never (by rfl) (qi_enum (by rfl) T.b_enumerate (qa_cons (qv 0) (qa_nil))) (qg_tup (n := 2) (by rfl) (qgs_cons (qg_name (i := 3) S.nd (by rfl) (by first | exact Or.inl rfl | exact Or.inr rfl)) (qgs_cons (qg_name (i := 4) S.nd (by rfl) (by first | exact Or.inl rfl | exact Or.inr rfl)) qgs_nil))) (qss_one (qs_for PassesOwn.never (by rfl) (qi_enum (by rfl) T.b_enumerate (qa_cons (qv 1) (qa_nil))) (qg_tup (n := 2) (by rfl) (qgs_cons (qg_name (i := 5) S.nd (by rfl) (by first | exact Or.inl rfl | exact Or.inr rfl)) (qgs_cons (qg_name (i := 6) S.nd (by rfl) (by first | exact Or.inl rfl | exact Or.inr rfl)) qgs_nil))) (qss_one (qs_setIx (qe_add (qe_ix (qv 2) (qe_add (qv 3) (qv 5))) (qe_mul (qv 4) (qv 6))) (qv 2) (qe_add (qv 3) (qv 5)))))))
      (qss_one (qs_ret (qe_callTy call_tuple_of sim_tuple (by rfl) T.b_tuple boot_tuple (qa_cons (qv 2) (qa_nil))))))), fun as Q0 h => ?_⟩
  obtain ⟨xs, ys, rfl, hx0, hy0, hl, hm, hQ⟩ := h
  have hx1 : 0 < xs.length := List.length_pos_iff.mpr hx0
  have hy1 : 0 < ys.length := List.length_pos_iff.mpr hy0
  have en : ((is xs).length : Int) + (is ys).length - 1 = ((xs.length + ys.length - 1 : Nat) : Int) := by rw [is_map_len, is_map_len]; omega
  have c1 : -(2 ^ 63) ≤ ((is xs).length : Int) + (is ys).length - 1 ∧ ((is xs).length : Int) + (is ys).length - 1 < 2 ^ 63 ∧ [D.int 0].length * (((is xs).length : Int) + (is ys).length - 1).toNat ≤ sizeLine := by
    rw [en, Int.toNat_natCast]
    exact ⟨by omega, by omega, by show 1 * _ ≤ _; exact le_line (by omega)⟩
  refine ⟨le_line (by decide), c1, ?_⟩
  refine for_eq (fun i => [.sh (.tup (is xs)), .sh (.tup (is ys)), .ow (.lst (is (mulAcc (List.replicate (xs.length + ys.length - 1) 0) 0 (xs.take i) ys))), .un, .un, .un, .un]) ⟨.inr rfl, .inr rfl, .inr ?_, .inl rfl, .inl rfl, .inl rfl, .inl rfl, trivial⟩ (fun i x hx => ?_) ?_
  · show Sl.ow (.lst (List.replicate (((is xs).length : Int) + (is ys).length - 1).toNat [D.int 0]).flatten) = _
    rw [en, Int.toNat_natCast, rep0]; rfl
  · obtain ⟨d, hd, rfl⟩ := enumD_get hx
    obtain ⟨m, rfl, hxi⟩ := get_is hd
    have hi := (List.getElem?_eq_some_iff.mp hxi).1
    refine ⟨rfl, ?_⟩
    refine for_eq (fun s => [.sh (.tup (is xs)), .sh (.tup (is ys)), .ow (.lst (is (rowAdd (mulAcc (List.replicate (xs.length + ys.length - 1) 0) 0 (xs.take i) ys) i m (ys.take s)))), .sh (.int ((0 + i : Nat) : Int)), .sh (.int m), .un, .un]) (Wk.refl _) (fun s y hy => ?_) (upq ?_)
    · obtain ⟨d, hd, rfl⟩ := enumD_get hy
      obtain ⟨n, rfl, hys⟩ := get_is hd
      have hs := (List.getElem?_eq_some_iff.mp hys).1
      have hF : (rowAdd (mulAcc (List.replicate (xs.length + ys.length - 1) 0) 0 (xs.take i) ys) i m (ys.take s)).length = xs.length + ys.length - 1 := by rw [rowAdd_len, mulAcc_len, List.length_replicate]
      have e : ((0 + i : Nat) : Int) + ((0 + s : Nat) : Int) = ((i + s : Nat) : Int) := by omega
      have hlt : i + s < (rowAdd (mulAcc (List.replicate (xs.length + ys.length - 1) 0) 0 (xs.take i) ys) i m (ys.take s)).length := by rw [hF]; omega
      refine ⟨rfl, .int _, (by rw [e]; exact atI_is (getD_at hlt) : atI _ (((0 + i : Nat) : Int) + ((0 + s : Nat) : Int)) = _), small_mul (hm m (List.mem_of_getElem? hxi)), i + s, (by rw [e, is_map_len]; exact PL.ixN_nat' hlt : ixN _ (((0 + i : Nat) : Int) + ((0 + s : Nat) : Int)) = _), upq ⟨.inr rfl, .inr rfl, .inr ?_, .inr rfl, .inr rfl, .inl rfl, .inl rfl, trivial⟩⟩
      show Sl.ow (.lst ((is _).set (i + s) (.int _))) = _
      rw [set_is, take_snoc hys, rowAdd_snoc, List.length_take, Nat.min_eq_left (by omega)]
    · refine ⟨.inr rfl, .inr rfl, .inr ?_, .inl rfl, .inl rfl, .inl rfl, .inl rfl, trivial⟩
      rw [enumD_len, is_map_len, List.take_length, take_snoc hxi, mulAcc_snoc, List.length_take, Nat.min_eq_left (by omega), Nat.zero_add]
  · refine ⟨trivial, ?_⟩
    rw [enumD_len, is_map_len, List.take_length]
    exact hQ
theorem multiplied_ok (T : Fx K mg) : Cal P w K mg base 1 "multiplied" 2 false φ_multiplied := by
  obtain ⟨fd, F⟩ := T.d_multiplied
  exact ⟨⟨fd, _, multiplied_at T F, F.bindsN fun _ _ _ _ _ _ us hl => match us, hl with | [_, _], _ => rfl⟩, T.g_multiplied, T.k_multiplied⟩
def φ_Strip___init__ : PCt := fun as Q => ∃ ns : List Int, (∃ a, (a = .sh (.lst (is ns)) ∨ a = .sh (.tup (is ns))) ∧ as = [.ow (.ins 0 []), a] ∧ OkS ns ∧ Q false .non [.ow (strD ns), a])
theorem Strip___init___at (T : Fx K mg) {fd : FuncData} (F : FunD K "__init__" "Strip.__init__" (defArgs (inClass (top 26) 0)) (defBody (inClass (top 26) 0)) (defScope (inClass (top 26) 0)) [] [] (ma K (ga K "Strip") "__init__") fd) : FnOk P w K mg base CX0 4 (ma K (ga K "Strip") "__init__") fd ["self", "numbers"] (spOf ⟨K, mg⟩ 2 true φ_Strip___init__) := by
  have S : FnScope ["self", "numbers", "number", "beat"] ["self", "numbers"] (defScope (inClass (top 26) 0)) := C8.fnScope_by (by kernel_rfl)
  refine funD_ok (n := 2) F S rfl fun cdv A outer s H E hr => ⟨_, (qss_cons (qs_if (QW.qt (qw_or (qt_not (qt_val (qc (are_integers_ok T) hr (qa_cons (qv 1) (qa_nil))))) (qw_or (qt_cmp (op_eqD hr.units) sim_eq (qe_len rfl (by rfl) T.b_len (qa_cons (qv 1) (qa_nil))) qe_int (nomark _)) (qw_or (qt_cmp (op_eqD hr.units) sim_eq (qe_ix (qv 1) qe_int) qe_int (nomark _)) (qw_or1 (qt_cmp (op_eqD hr.units) sim_eq (qe_ix (qv 1) (qe_neg qe_int)) qe_int (nomark _))))))) qss_never qss_nil)
      (qss_cons (qs_expr (qc (need_length_ok T) hr (qa_cons (qe_sub (qe_len rfl (by rfl) T.b_len (qa_cons (qv 1) (qa_nil))) qe_int) (qa_cons (qgi T.i_MOST_LENGTH) (qa_nil)))))
      (qss_cons (setfld T.f_numbers (qv 0) (qe_callTy call_tuple_of sim_tuple (by rfl) T.b_tuple boot_tuple (qa_cons (qv 1) (qa_nil))))
      (qss_cons (setfld T.f_length (qv 0) (qe_sub (qe_len rfl (by rfl) T.b_len (qa_cons (qv 1) (qa_nil))) qe_int))
      (qss_cons (setfld T.f_total (qv 0) (qe_callB (cr_sumA (by rfl)) sim_sum (by rfl) T.b_sum boot_sum (qa_cons (qv 1) (qa_nil))))
      (qss_cons (setfld T.f_is_lot (qv 0) (qe_callB (cr_all (by rfl)) sim_all (by rfl) T.b_all boot_all (qa_cons (qe_lc (own := [("number", 2)]) (by rfl) S.nd (qi_seq (qv 1)) (blk_of (by kernel_rfl)) (fun _ _ _ _ _ => (qg_name (i := 2) S.nd (by rfl) (by first | exact Or.inl rfl | exact Or.inr rfl))) (fun _ _ _ _ _ => qts_nil) (fun _ _ _ _ _ => (qe_cmp (op_inS hr.unitsI) sim_in (qv 2) (qe_tup (qa_cons qe_int (qa_cons qe_int (qa_nil)))) (by rfl)))) (qa_nil))))
      (qss_one (setfld T.f_marks (qv 0) (qe_callTy call_tuple_of sim_tuple (by rfl) T.b_tuple boot_tuple (qa_cons (qe_lc (own := [("beat", 3), ("number", 2)]) (by rfl) S.nd (qi_enum (by rfl) T.b_enumerate (qa_cons (qv 1) (qa_nil))) (blk_of (by kernel_rfl)) (fun _ _ _ _ _ => (qg_tup (n := 2) (by rfl) (qgs_cons (qg_name (i := 3) S.nd (by rfl) (by first | exact Or.inl rfl | exact Or.inr rfl)) (qgs_cons (qg_name (i := 2) S.nd (by rfl) (by first | exact Or.inl rfl | exact Or.inr rfl)) qgs_nil)))) (fun _ _ _ _ _ => (qts_one (qt_cmp (op_neD hr.units) sim_ne (qv 2) qe_int (nomark _)))) (fun _ _ _ _ _ => (qv 3))) (qa_nil))))))))))), fun as Q0 h => ?_⟩
  obtain ⟨ns, a, ha, rfl, hok, hQ⟩ := h
  obtain ⟨h0, e0, n0⟩ := hok.h0
  obtain ⟨l0, el, nl⟩ := hok.hl
  have hz : ns.length ≤ sizeLine := le_line (by have := hok.len; omega)
  have hz2 : (is ns).length ≤ sizeLine := by rw [is_map_len]; exact hz
  have hne := hok.ne
  have hp : 0 < ns.length := List.length_pos_iff.mpr hne
  rcases ha with rfl | rfl
  all_goals
    refine ⟨rfl, ns, by first | exact .inl rfl | exact .inr rfl, hz, nofun, fun _ => ?_⟩
    refine ⟨rfl, rfl, fun e => ?_, fun _ => ?_⟩
    · rw [eqb_int] at e; have := of_decide_eq_true e; rw [is_map_len] at this; omega
    refine ⟨.int h0, atI_is (k := 0) e0, rfl, rfl, fun e => ?_, fun _ => ?_⟩
    · rw [eqb_int] at e; exact absurd (of_decide_eq_true e) n0
    refine ⟨.int l0, atI_lastq el, rfl, rfl, fun e => ?_, fun _ => ?_⟩
    · rw [eqb_int] at e; exact absurd (of_decide_eq_true e) nl
    refine ⟨rfl, _, _, rfl, ?_, ?_⟩
    · show ((is ns).length : Int) - 1 ≤ 40
      rw [is_map_len]; have := hok.len; omega
    have eS : strD ns = .ins 0 [.tup (is ns), .int (((is ns).length : Int) - 1), .int ns.sum, .bl ((ns.map fun n => [D.int 0, D.int 1].any fun z => eqb z (.int n)).all id), .tup (is (marksFrom 0 ns))] := by
      rw [lot_eq, is_map_len]; rfl
    rw [eS] at hQ
    refine ⟨ns, rfl, ?_⟩
    refine lc1 (fun d => .bl ([D.int 0, D.int 1].any fun z => eqb z d)) hz2 (fun x K hx hK => ?_) ?_
    · obtain ⟨m, _, rfl⟩ := List.mem_map.mp hx
      exact ⟨le_line (by decide), rfl, ok_lst [0, 1], hK⟩
    refine ⟨ns.map fun n => [D.int 0, D.int 1].any fun z => eqb z (.int n), by simp [is], ?_⟩
    refine ⟨fun i acc Γ => acc = is (marksFrom 0 (ns.take i)) ∧ Γ = [.ow (.ins 0 [.tup (is ns), .int (((is ns).length : Int) - 1), .int ns.sum, .bl ((ns.map fun n => [D.int 0, D.int 1].any fun z => eqb z (.int n)).all id)]), _, .un, .un], ⟨rfl, rfl⟩, fun i x acc Γ hx hI => ?_, fun acc Γ hI => ?_⟩
    · obtain ⟨rfl, rfl⟩ := hI
      obtain ⟨d, hd, rfl⟩ := enumD_get hx
      obtain ⟨m, rfl, hxi⟩ := get_is hd
      have hi := (List.getElem?_eq_some_iff.mp hxi).1
      refine ⟨rfl, rfl, rfl, fun hb => ⟨?_, ?_, rfl⟩, fun hb => ⟨?_, rfl⟩⟩
      · have := marks_len (ns.take i) 0
        rw [List.length_take] at this
        rw [is_map_len]; omega
      · rw [eqb_int] at hb
        have hm : m ≠ 0 := by simpa using hb
        rw [take_snoc hxi, marks_snoc, if_pos hm, List.length_take, Nat.min_eq_left (by omega)]
        simp [is]
      · rw [eqb_int] at hb
        have hm : ¬ m ≠ 0 := by simpa using hb
        rw [take_snoc hxi, marks_snoc, if_neg hm, List.append_nil]
    · obtain ⟨rfl, rfl⟩ := hI
      refine ⟨trivial, ?_⟩
      rw [enumD_len, is_map_len, List.take_length]
      rw [is_map_len] at hQ
      exact hQ
theorem Strip___init___ok (T : Fx K mg) : Mak P w K mg base 4 0 2 φ_Strip___init__ := by
  obtain ⟨fd, F⟩ := T.d_Strip___init__
  exact ⟨⟨fd, _, Strip___init___at T F, F.bindsN fun _ _ _ _ _ _ us hl => match us, hl with | [_, _], _ => rfl⟩, T.g_Strip, T.k_Strip⟩
def φ_Strip_at : PCt := fun as Q => ∃ (ns : List Int) (b : Int), as = [.sh (strD ns), .sh (.int b)] ∧ Q false (.int (if 0 ≤ b then ns.getD b.toNat 0 else 0)) as
theorem Strip_at_at (T : Fx K mg) {fd : FuncData} (F : FunD K "at" "Strip.at" (defArgs (inClass (top 26) 3)) (defBody (inClass (top 26) 3)) (defScope (inClass (top 26) 3)) [] [] (ma K (ga K "Strip") "at") fd) : FnOk P w K mg base CX0 4 (ma K (ga K "Strip") "at") fd ["self", "beat"] (spOf ⟨K, mg⟩ 2 false φ_Strip_at) := by
  have S : FnScope ["self", "beat"] ["self", "beat"] (defScope (inClass (top 26) 3)) := C8.fnScope_by (by kernel_rfl)
  refine funD_ok (n := 0) F S rfl fun cdv A outer s H E hr => ⟨_, (qss_cons (qs_expr (qc (need_number_ok T) hr (qa_cons (qv 1) (qa_cons qe_str (qa_cons qe_non (qa_cons qe_non (qa_nil)))))))
      (qss_one (qs_ret (qe_ifE (qt_chain op_le op_le sim_B0 sim_B0 qe_int (qv 1) (fld T.f_length (qv 0))) (qe_ix (fld T.f_numbers (qv 0)) (qv 1)) qe_int)))), fun as Q0 h => ?_⟩
  obtain ⟨ns, b, rfl, hQ⟩ := h
  refine ⟨rfl, b, _, rfl, ?_⟩
  refine ⟨fun h0 => ⟨fun h1 => ?_, fun h1 => ?_⟩, fun h0 => ⟨nofun, fun _ => ⟨trivial, ?_⟩⟩⟩
  · have h0 : 0 ≤ b := of_decide_eq_true h0
    have h1 : b ≤ (ns.length : Int) - 1 := of_decide_eq_true h1
    rw [if_pos h0] at hQ
    have e : b = ((b.toNat : Nat) : Int) := by omega
    refine ⟨.int (ns.getD b.toNat 0), ?_, trivial, hQ⟩
    rw [e]; exact atI_is (getD_at (by omega))
  · have h0 : 0 ≤ b := of_decide_eq_true h0
    have h1 : ¬ b ≤ (ns.length : Int) - 1 := of_decide_eq_false h1
    rw [if_pos h0, List.getD_eq_getElem?_getD, List.getElem?_eq_none (by omega)] at hQ
    exact ⟨trivial, hQ⟩
  · have h0 : ¬ 0 ≤ b := of_decide_eq_false h0
    rw [if_neg h0] at hQ
    exact hQ
theorem Strip_at_ok (T : Fx K mg) : Met P w K mg base 4 0 "at" 2 false φ_Strip_at := by
  obtain ⟨fd, F⟩ := T.d_Strip_at
  exact ⟨⟨fd, _, Strip_at_at T F, F.bindsN fun _ _ _ _ _ _ us hl => match us, hl with | [_, _], _ => rfl⟩, T.g_Strip, T.c_Strip, T.m_Strip_at, by decide +kernel⟩
def φ_Strip_backward : PCt := fun as Q => ∃ ns : List Int, as = [.sh (strD ns)] ∧ OkS ns ∧ Q true (strD ns.reverse) as
theorem Strip_backward_at (T : Fx K mg) {fd : FuncData} (F : FunD K "backward" "Strip.backward" (defArgs (inClass (top 26) 4)) (defBody (inClass (top 26) 4)) (defScope (inClass (top 26) 4)) [] [] (ma K (ga K "Strip") "backward") fd) : FnOk P w K mg base CX0 6 (ma K (ga K "Strip") "backward") fd ["self"] (spOf ⟨K, mg⟩ 1 false φ_Strip_backward) := by
  have S : FnScope ["self"] ["self"] (defScope (inClass (top 26) 4)) := C8.fnScope_by (by kernel_rfl)
  refine funD_ok (n := 0) F S rfl fun cdv A outer s H E hr => ⟨_, (qss_one (qs_ret (qmk (Strip___init___ok T) hr (qa_cons (qe_rev (fld T.f_numbers (qv 0))) (qa_nil))))), fun as Q0 h => ?_⟩
  obtain ⟨ns, rfl, hok, hQ⟩ := h
  have hr : OkS ns.reverse := ok_rev hok
  exact ⟨rfl, ns.reverse, _, .inr rfl, by rw [is_rev]; rfl, hr, trivial, hQ⟩
theorem Strip_backward_ok (T : Fx K mg) : Met P w K mg base 6 0 "backward" 1 false φ_Strip_backward := by
  obtain ⟨fd, F⟩ := T.d_Strip_backward
  exact ⟨⟨fd, _, Strip_backward_at T F, F.bindsN fun _ _ _ _ _ _ us hl => match us, hl with | [_], _ => rfl⟩, T.g_Strip, T.c_Strip, T.m_Strip_backward, by decide +kernel⟩
def φ_Strip_product : PCt := fun as Q => ∃ xs ys : List Int, as = [.sh (strD xs), .sh (strD ys)] ∧ OkS xs ∧ OkS ys ∧ xs.length + ys.length ≤ 42 ∧ (∀ x ∈ xs, x.natAbs < 2 ^ 64) ∧ Q true (strD (conv xs ys)) as
theorem Strip_product_at (T : Fx K mg) {fd : FuncData} (F : FunD K "product" "Strip.product" (defArgs (inClass (top 26) 6)) (defBody (inClass (top 26) 6)) (defScope (inClass (top 26) 6)) [] [] (ma K (ga K "Strip") "product") fd) : FnOk P w K mg base CX0 6 (ma K (ga K "Strip") "product") fd ["self", "other"] (spOf ⟨K, mg⟩ 2 false φ_Strip_product) := by
  have S : FnScope ["self", "other"] ["self", "other"] (defScope (inClass (top 26) 6)) := C8.fnScope_by (by kernel_rfl)
  refine funD_ok (n := 0) F S rfl fun cdv A outer s H E hr => ⟨_, (qss_cons (qs_expr (qc (need_strip_ok T) hr (qa_cons (qv 1) (qa_cons qe_str (qa_nil)))))
      (qss_cons (qs_expr (qc (need_length_ok T) hr (qa_cons (qe_add (fld T.f_length (qv 0)) (fld T.f_length (qv 1))) (qa_cons (qgi T.i_MOST_LENGTH) (qa_nil)))))
      (qss_one (qs_ret (qmk (Strip___init___ok T) hr (qa_cons (qc (multiplied_ok T) hr (qa_cons (fld T.f_numbers (qv 0)) (qa_cons (fld T.f_numbers (qv 1)) (qa_nil)))) (qa_nil))))))), fun as Q0 h => ?_⟩
  obtain ⟨xs, ys, rfl, hx, hy, hl, hm, hQ⟩ := h
  have hx1 : 0 < xs.length := List.length_pos_iff.mpr hx.ne
  have hy1 : 0 < ys.length := List.length_pos_iff.mpr hy.ne
  refine ⟨rfl, _, _, rfl, ?_⟩
  refine ⟨rfl, _, _, rfl, ?_, ?_⟩
  · omega
  refine ⟨rfl, xs, ys, rfl, hx.ne, hy.ne, by omega, hm, ?_⟩
  exact ⟨rfl, conv xs ys, _, .inr rfl, rfl, ok_conv hx hy hl, trivial, hQ⟩
theorem Strip_product_ok (T : Fx K mg) : Met P w K mg base 6 0 "product" 2 false φ_Strip_product := by
  obtain ⟨fd, F⟩ := T.d_Strip_product
  exact ⟨⟨fd, _, Strip_product_at T F, F.bindsN fun _ _ _ _ _ _ us hl => match us, hl with | [_, _], _ => rfl⟩, T.g_Strip, T.c_Strip, T.m_Strip_product, by decide +kernel⟩
def φ_Strip___eq__ : PCt := fun as Q => ∃ xs ys : List Int, as = [.sh (strD xs), .sh (strD ys)] ∧ Q false (.bl (decide (xs = ys))) as
theorem Strip___eq___at (T : Fx K mg) {fd : FuncData} (F : FunD K "__eq__" "Strip.__eq__" (defArgs (inClass (top 26) 7)) (defBody (inClass (top 26) 7)) (defScope (inClass (top 26) 7)) [] [] (ma K (ga K "Strip") "__eq__") fd) : FnOk P w K mg base CX0 1 (ma K (ga K "Strip") "__eq__") fd ["self", "other"] (spOf ⟨K, mg⟩ 2 false φ_Strip___eq__) := by
  have S : FnScope ["self", "other"] ["self", "other"] (defScope (inClass (top 26) 7)) := C8.fnScope_by (by kernel_rfl)
  refine funD_ok (n := 0) F S rfl fun cdv A outer s H E hr => ⟨_, (qss_one (qs_ret (qe_and (qe_isi1 T.s_Strip (.own _) (qe_cls T.g_Strip) T.b_isinstance (qv 1)) (qe_one (qe_cmp (op_eqD hr.units) sim_eq (fld T.f_numbers (qv 0)) (fld T.f_numbers (qv 1)) (nomark _)))))), fun as Q0 h => ?_⟩
  obtain ⟨xs, ys, rfl, hQ⟩ := h
  refine ⟨true, rfl, fun _ => ⟨ok_tup xs, ok_tup ys, trivial, ?_⟩, nofun⟩
  rw [eqb_tup]; exact hQ
theorem Strip___eq___ok (T : Fx K mg) : OEq P w K mg base 1 0 φ_Strip___eq__ := by
  obtain ⟨fd, F⟩ := T.d_Strip___eq__
  exact ⟨⟨fd, _, Strip___eq___at T F, F.bindsN fun _ _ _ _ _ _ us hl => match us, hl with | [_, _], _ => rfl⟩, T.g_Strip, T.e_Strip.1, T.e_Strip.2.1, T.e_Strip.2.2.1, T.e_Strip.2.2.2⟩
def φ_measure_in : PCt := fun as Q => ∃ ns : List Int, as = [.sh (.tup (is ns))] ∧ Q false (.int (gcdL ns)) as
theorem measure_in_at (T : Fx K mg) {fd : FuncData} (F : FunD K "measure_in" "measure_in" (defArgs (top 28)) (defBody (top 28)) (defScope (top 28)) [] [] (ga K "measure_in") fd) : FnOk P w K mg base CX0 2 (ga K "measure_in") fd ["numbers"] (spOf ⟨K, mg⟩ 1 false φ_measure_in) := by
  have S : FnScope ["numbers", "found", "number"] ["numbers"] (defScope (top 28)) := C8.fnScope_by (by kernel_rfl)
  refine funD_ok (n := 2) F S rfl fun cdv A outer s H E hr => ⟨_, (qss_cons (qs_set (i := 1) S.nd (by rfl) (by first | exact Or.inl rfl | exact Or.inr rfl) qe_int)
      (qss_cons (qs_for PassesOwn.never (by rfl) (qi_seq (qv 0)) (qg_name (i := 2) S.nd (by rfl) (by first | exact Or.inl rfl | exact Or.inr rfl)) (qss_one (qs_set (i := 1) S.nd (by rfl) (by first | exact Or.inl rfl | exact Or.inr rfl) (qc (measure_of_ok T) hr (qa_cons (qv 1) (qa_cons (qv 2) (qa_nil)))))))
      (qss_one (qs_ret (qv 1))))), fun as Q0 h => ?_⟩
  obtain ⟨ns, rfl, hQ⟩ := h
  refine for_eq (fun i => [.sh (.tup (is ns)), .sh (.int (gcdL (ns.take i))), .un]) ⟨.inr rfl, .inr rfl, .inl rfl, trivial⟩ (fun i x hx => ?_) ?_
  · obtain ⟨m, rfl, hxi⟩ := get_is hx
    refine ⟨rfl, _, _, rfl, upq ⟨.inr rfl, .inr ?_, .inl rfl, trivial⟩⟩
    show Sl.sh (.int (Int.gcd _ m)) = _
    rw [take_snoc hxi, gcdL_snoc]
  · refine ⟨trivial, ?_⟩
    rw [is_map_len, List.take_length]
    exact hQ
theorem measure_in_ok (T : Fx K mg) : Cal P w K mg base 2 "measure_in" 1 false φ_measure_in := by
  obtain ⟨fd, F⟩ := T.d_measure_in
  exact ⟨⟨fd, _, measure_in_at T F, F.bindsN fun _ _ _ _ _ _ us hl => match us, hl with | [_], _ => rfl⟩, T.g_measure_in, T.k_measure_in⟩
def φ_is_plain : PCt := fun as Q => ∃ ns : List Int, as = [.sh (strD ns)] ∧ OkS ns ∧ Q false (.bl (decide (0 < ns.getLastD 0) && decide (gcdL ns = 1))) as
theorem is_plain_at (T : Fx K mg) {fd : FuncData} (F : FunD K "is_plain" "is_plain" (defArgs (top 29)) (defBody (top 29)) (defScope (top 29)) [] [] (ga K "is_plain") fd) : FnOk P w K mg base CX0 3 (ga K "is_plain") fd ["strip"] (spOf ⟨K, mg⟩ 1 false φ_is_plain) := by
  have S : FnScope ["strip"] ["strip"] (defScope (top 29)) := C8.fnScope_by (by kernel_rfl)
  refine funD_ok (n := 0) F S rfl fun cdv A outer s H E hr => ⟨_, (qss_cons (qs_expr (qc (need_strip_ok T) hr (qa_cons (qv 0) (qa_cons qe_str (qa_nil)))))
      (qss_one (qs_ret (qe_and (qe_cmp op_gt sim_B0 (qe_ix (fld T.f_numbers (qv 0)) (qe_neg qe_int)) qe_int (nomark _)) (qe_one (qe_cmp (op_eqD hr.units) sim_eq (qc (measure_in_ok T) hr (qa_cons (fld T.f_numbers (qv 0)) (qa_nil))) qe_int (nomark _))))))), fun as Q0 h => ?_⟩
  obtain ⟨ns, rfl, hok, hQ⟩ := h
  obtain ⟨l0, el, nl⟩ := hok.hl
  have eL : ns.getLastD 0 = l0 := by rw [List.getLastD_eq_getLast?, el]; rfl
  rw [eL] at hQ
  refine ⟨rfl, _, _, rfl, ?_⟩
  refine ⟨.int l0, atI_lastq el, fun e => ?_, fun e => ?_⟩
  · rw [show decide (0 < l0) = true from e] at hQ
    refine ⟨rfl, ns, rfl, rfl, rfl, trivial, ?_⟩
    rw [eqb_int]
    have : decide ((gcdL ns : Int) = 1) = decide (gcdL ns = 1) := by congr 1; exact propext ⟨fun z => by omega, fun z => by omega⟩
    show Q0 false (.bl (decide ((gcdL ns : Int) = 1))) _
    rw [this]; exact hQ
  · rw [show decide (0 < l0) = false from e] at hQ
    exact ⟨trivial, hQ⟩
theorem is_plain_ok (T : Fx K mg) : Cal P w K mg base 3 "is_plain" 1 false φ_is_plain := by
  obtain ⟨fd, F⟩ := T.d_is_plain
  exact ⟨⟨fd, _, is_plain_at T F, F.bindsN fun _ _ _ _ _ _ us hl => match us, hl with | [_], _ => rfl⟩, T.g_is_plain, T.k_is_plain⟩
theorem is_plain_okK (T : Fx K mg) : CalK P w K mg base 3 "is_plain" 1 false φ_is_plain ["strip"] := by
  obtain ⟨fd, F⟩ := T.d_is_plain
  exact ⟨⟨fd, _, is_plain_at T F, kb1 F (fun _ _ _ _ _ _ _ => rfl) (fun _ _ _ _ _ _ _ => rfl)⟩, T.g_is_plain, T.k_is_plain⟩
def φ_reads_same : PCt := fun as Q => ∃ ns : List Int, as = [.sh (strD ns)] ∧ ns.length ≤ 41 ∧ Q false (.bl (decide (ns = ns.reverse) || decide (ns = ns.reverse.map (- ·)))) as
theorem reads_same_at (T : Fx K mg) {fd : FuncData} (F : FunD K "reads_same" "reads_same" (defArgs (top 30)) (defBody (top 30)) (defScope (top 30)) [] [] (ga K "reads_same") fd) : FnOk P w K mg base CX0 2 (ga K "reads_same") fd ["strip"] (spOf ⟨K, mg⟩ 1 false φ_reads_same) := by
  have S : FnScope ["strip", "back", "number"] ["strip"] (defScope (top 30)) := C8.fnScope_by (by kernel_rfl)
  refine funD_ok (n := 2) F S rfl fun cdv A outer s H E hr => ⟨_, (qss_cons (qs_expr (qc (need_strip_ok T) hr (qa_cons (qv 0) (qa_cons qe_str (qa_nil)))))
      (qss_cons (qs_set (i := 1) S.nd (by rfl) (by first | exact Or.inl rfl | exact Or.inr rfl) (qe_rev (fld T.f_numbers (qv 0))))
      (qss_one (qs_ret (qe_or (qe_cmp (op_eqD hr.units) sim_eq (fld T.f_numbers (qv 0)) (qv 1) (nomark _)) (qe_one (qe_cmp (op_eqD hr.units) sim_eq (fld T.f_numbers (qv 0)) (qe_callTy call_tuple_of sim_tuple (by rfl) T.b_tuple boot_tuple (qa_cons (qe_lc (own := [("number", 2)]) (by rfl) S.nd (qi_seq (qv 1)) (blk_of (by kernel_rfl)) (fun _ _ _ _ _ => (qg_name (i := 2) S.nd (by rfl) (by first | exact Or.inl rfl | exact Or.inr rfl))) (fun _ _ _ _ _ => qts_nil) (fun _ _ _ _ _ => (qe_neg (qv 2)))) (qa_nil))) (nomark _)))))))), fun as Q0 h => ?_⟩
  obtain ⟨ns, rfl, hl, hQ⟩ := h
  have er : (is ns).reverse = is ns.reverse := (is_rev ns).symm
  refine ⟨rfl, _, _, rfl, ?_⟩
  refine ⟨ok_tup ns, (by rw [er]; exact ok_tup _ : okD (.tup (is ns).reverse) = true), fun e => ?_, fun e => ?_⟩
  · rw [er, eqb_tup] at e
    rw [e] at hQ
    exact ⟨trivial, hQ⟩
  · rw [er, eqb_tup] at e
    rw [e, Bool.false_or] at hQ
    refine lc1 (xs := (is ns).reverse) (fun d => match d with | .int n => .int (-n) | d => d) (by rw [List.length_reverse, is_map_len]; exact le_line (by omega)) (fun x K hx hK => ?_) ?_
    · obtain ⟨m, _, rfl⟩ := List.mem_map.mp (List.mem_reverse.mp hx)
      exact hK
    have em : (is ns).reverse.map (fun d => match d with | .int n => D.int (-n) | d => d) = is (ns.reverse.map (- ·)) := by rw [er]; simp [is]
    refine ⟨ok_tup ns, (by rw [em]; exact ok_tup _ : okD (.tup ((is ns).reverse.map (fun d => match d with | .int n => D.int (-n) | d => d))) = true), trivial, ?_⟩
    rw [em, eqb_tup]
    exact hQ
theorem reads_same_ok (T : Fx K mg) : Cal P w K mg base 2 "reads_same" 1 false φ_reads_same := by
  obtain ⟨fd, F⟩ := T.d_reads_same
  exact ⟨⟨fd, _, reads_same_at T F, F.bindsN fun _ _ _ _ _ _ us hl => match us, hl with | [_], _ => rfl⟩, T.g_reads_same, T.k_reads_same⟩
theorem reads_same_okK (T : Fx K mg) : CalK P w K mg base 2 "reads_same" 1 false φ_reads_same ["strip"] := by
  obtain ⟨fd, F⟩ := T.d_reads_same
  exact ⟨⟨fd, _, reads_same_at T F, kb1 F (fun _ _ _ _ _ _ _ => rfl) (fun _ _ _ _ _ _ _ => rfl)⟩, T.g_reads_same, T.k_reads_same⟩
def φ__law_tin : PCt := fun as Q => ∃ ns : List Int, as = [.sh (.scr ns)] ∧ ns.length ≤ 63 ∧ Q true (tinD ns 0 0) as
theorem _law_tin_at (T : Fx K mg) {fd : FuncData} (F : FunD K "_law_tin" "_law_tin" (defArgs (top 32)) (defBody (top 32)) (defScope (top 32)) [] [] (ga K "_law_tin") fd) : FnOk P w K mg base CX0 1 (ga K "_law_tin") fd ["script"] (spOf ⟨K, mg⟩ 1 false φ__law_tin) := by
  have S : FnScope ["script", "cell"] ["script"] (defScope (top 32)) := C8.fnScope_by (by kernel_rfl)
  refine funD_ok (n := 1) F S rfl fun cdv A outer s H E hr => ⟨_, (qss_one (qs_ret (qe_lst (qa_cons (qe_lc (own := [("cell", 1)]) (by rfl) S.nd (qi_seq (qe_sl (qv 0) qo_none (qo_some qe_int))) (blk_of (by kernel_rfl)) (fun _ _ _ _ _ => (qg_name (i := 1) S.nd (by rfl) (by first | exact Or.inl rfl | exact Or.inr rfl))) (fun _ _ _ _ _ => qts_nil) (fun _ _ _ _ _ => (qe_callTy call_int1 sim_int (by rfl) T.b_int boot_int (qa_cons (qv 1) (qa_nil))))) (qa_cons qe_int (qa_cons qe_int (qa_nil))))))), fun as Q0 h => ?_⟩
  obtain ⟨ns, rfl, hl, hQ⟩ := h
  have e : cutG ns none (some 63) = ns := by
    rw [show (63 : Int) = ((63 : Nat) : Int) from rfl, cut_head]
    exact List.take_of_length_le hl
  refine lc1 (xs := (cutG ns none (some 63)).map D.int) (fun d => d) (by rw [List.length_map, e]; exact le_line (by omega)) (fun x K hx hK => ?_) ?_
  · obtain ⟨m, _, rfl⟩ := List.mem_map.mp hx
    exact hK
  refine ⟨le_line (by show (3 : Nat) ≤ 1000; omega), trivial, ?_⟩
  rw [List.map_id', e]
  exact hQ
theorem _law_tin_ok (T : Fx K mg) : Cal P w K mg base 1 "_law_tin" 1 false φ__law_tin := by
  obtain ⟨fd, F⟩ := T.d__law_tin
  exact ⟨⟨fd, _, _law_tin_at T F, F.bindsN fun _ _ _ _ _ _ us hl => match us, hl with | [_], _ => rfl⟩, T.g__law_tin, T.k__law_tin⟩
def φ__law_roll : PCt := fun as Q => ∃ (ns : List Int) (k r m : Int), as = [.ow (tinD ns k r), .sh (.int m)] ∧ 0 ≤ k ∧ k < 2 ^ 20 ∧ 0 ≤ r ∧ 1 ≤ m ∧ m < 2 ^ 30 ∧ ns.length ≤ 63 ∧ ∀ v k2 r2 : Int, 0 ≤ v → v < m → k ≤ k2 → k2 ≤ k + 1 → 0 ≤ r2 → Q false (.int v) [.ow (tinD ns k2 r2), .sh (.int m)]
theorem _law_roll_at (T : Fx K mg) {fd : FuncData} (F : FunD K "_law_roll" "_law_roll" (defArgs (top 33)) (defBody (top 33)) (defScope (top 33)) [] [] (ga K "_law_roll") fd) : FnOk P w K mg base CX0 1 (ga K "_law_roll") fd ["tin", "many"] (spOf ⟨K, mg⟩ 2 true φ__law_roll) := by
  have S : FnScope ["tin", "many", "rest", "at", "cell", "mixed"] ["tin", "many"] (defScope (top 33)) := C8.fnScope_by (by kernel_rfl)
  refine funD_ok (n := 4) F S rfl fun cdv A outer s H E hr => ⟨_, (qss_cons (qs_if (qt_cmp op_gt sim_B0 (qe_ix (qv 0) qe_int) qe_int (nomark _)) (qss_cons (qs_set (i := 2) S.nd (by rfl) (by first | exact Or.inl rfl | exact Or.inr rfl) (qe_callTy call_int1 sim_int (by rfl) T.b_int boot_int (qa_cons (qe_ix (qv 0) qe_int) (qa_nil))))
      (qss_cons (qs_setIx (qe_div (qv 2) (qv 1)) (qv 0) qe_int)
      (qss_one (qs_ret (qe_mod (qe_callTy call_int1 sim_int (by rfl) T.b_int boot_int (qa_cons (qv 2) (qa_nil))) (qv 1)))))) qss_nil)
      (qss_cons (qs_set (i := 3) S.nd (by rfl) (by first | exact Or.inl rfl | exact Or.inr rfl) (qe_ix (qv 0) qe_int))
      (qss_cons (qs_setIx (qe_add (qv 3) qe_int) (qv 0) qe_int)
      (qss_cons (qs_set (i := 4) S.nd (by rfl) (by first | exact Or.inl rfl | exact Or.inr rfl) (qe_add (qe_mul qe_int (qv 3)) qe_int))
      (qss_cons (qs_if (qt_cmp (op_neD hr.units) sim_ne (qe_ix (qv 0) qe_int) (qe_lst qa_nil) (nomark _)) (qss_one (qs_set (i := 4) S.nd (by rfl) (by first | exact Or.inl rfl | exact Or.inr rfl) (qe_ix (qe_ix (qv 0) qe_int) (qe_mod (qe_callTy call_int1 sim_int (by rfl) T.b_int boot_int (qa_cons (qv 3) (qa_nil))) (qe_len rfl (by rfl) T.b_len (qa_cons (qe_ix (qv 0) qe_int) (qa_nil))))))) qss_nil)
      (qss_cons (qs_if (QW.qt (qw_and (qt_cmp op_lt sim_B0 (qv 3) (qe_len rfl (by rfl) T.b_len (qa_cons (qe_ix (qv 0) qe_int) (qa_nil))) (nomark _)) (qw_and1 (qt_cmp op_ge sim_B0 (qe_callB call_abs sim_abs (by rfl) T.b_abs boot_abs (qa_cons (qv 4) (qa_nil))) (qe_pow qe_int qe_int) (nomark _))))) (qss_cons (qs_set (i := 2) S.nd (by rfl) (by first | exact Or.inl rfl | exact Or.inr rfl) (qe_add (qe_mul qe_int (qe_sub (qe_callB call_abs sim_abs (by rfl) T.b_abs boot_abs (qa_cons (qv 4) (qa_nil))) (qe_pow qe_int qe_int))) (qe_callTy call_int1 sim_int (by rfl) T.b_int boot_int (qa_cons (qe_cmp op_lt sim_B0 (qv 4) qe_int (nomark _)) (qa_nil)))))
      (qss_cons (qs_setIx (qe_div (qe_callTy call_int1 sim_int (by rfl) T.b_int boot_int (qa_cons (qv 2) (qa_nil))) (qv 1)) (qv 0) qe_int)
      (qss_one (qs_ret (qe_mod (qe_callTy call_int1 sim_int (by rfl) T.b_int boot_int (qa_cons (qv 2) (qa_nil))) (qv 1)))))) qss_nil)
      (qss_cons (qs_set (i := 5) S.nd (by rfl) (by first | exact Or.inl rfl | exact Or.inr rfl) (qe_mod (qe_callTy call_int1 sim_int (by rfl) T.b_int boot_int (qa_cons (qe_pow (qe_add (qe_add (qe_mod (qe_callTy call_int1 sim_int (by rfl) T.b_int boot_int (qa_cons (qv 4) (qa_nil))) qe_int) (qe_mul qe_int (qv 3))) qe_int) qe_int) (qa_nil))) qe_int))
      (qss_cons (qs_set (i := 5) S.nd (by rfl) (by first | exact Or.inl rfl | exact Or.inr rfl) (qe_mod (qe_callTy call_int1 sim_int (by rfl) T.b_int boot_int (qa_cons (qe_pow (qe_add (qe_add (qe_mul (qv 5) (qe_add (qe_mul qe_int (qv 3)) qe_int)) (qe_mul (qe_mul qe_int (qv 3)) (qv 3))) qe_int) qe_int) (qa_nil))) qe_int))
      (qss_one (qs_ret (qe_mod (qe_callTy call_int1 sim_int (by rfl) T.b_int boot_int (qa_cons (qe_div (qv 5) qe_int) (qa_nil))) (qv 1)))))))))))), fun as Q0 h => ?_⟩
  obtain ⟨ns, k, r, m, rfl, hk, hk2, hr0, hm, hm2, hl, hQ⟩ := h
  have hm0 : (0 : Int) < m := by omega
  have hmd : CDivW r m := ⟨hm0, log_small (by omega)⟩
  refine ⟨.int r, rfl, fun hb => ?_, fun hb => ?_⟩
  · have hb : 0 < r := of_decide_eq_true hb
    refine ⟨.int r, rfl, ?_⟩
    refine ⟨hmd, 2, rfl, ?_⟩
    exact ⟨hm0, trivial, hQ _ _ _ (Int.emod_nonneg _ (by omega)) (Int.emod_lt_of_pos _ hm0) (Int.le_refl _) (by omega) (Int.ediv_nonneg hr0 (by omega))⟩
  refine ⟨.int k, rfl, ?_⟩
  refine ⟨1, rfl, ?_⟩
  have hsm : IntMulOk 48611 k := small_mul (by decide)
  try dsimp only
  refine seq_mid (fun c : Int => [.ow (tinD ns (k + 1) r), .sh (.int m), .un, .sh (.int k), .sh (.int c), .un]) (fun K hK => ⟨hsm, hK _⟩) (fun c0 => ?_)
  try dsimp only
  refine seq_mid (fun c : Int => [.ow (tinD ns (k + 1) r), .sh (.int m), .un, .sh (.int k), .sh (.int c), .un]) (fun K hK => ?_) (fun c => ?_)
  · refine ⟨.lst (is ns), rfl, le_line (by decide), ok_lst ns, ok_lst [], fun hb => ?_, fun _ => hK _⟩
    have hne : ns ≠ [] := ne_nil_of hb
    have hlen : (0 : Int) < ((is ns).length : Nat) := by rw [is_map_len]; have := List.length_pos_iff.mpr hne; omega
    have h1 := Int.emod_nonneg k (show (((is ns).length : Nat) : Int) ≠ 0 by omega)
    have h2 := Int.emod_lt_of_pos k hlen
    have e : k % (((is ns).length : Nat) : Int) = ((k % (((is ns).length : Nat) : Int)).toNat : Nat) := by omega
    refine ⟨.lst (is ns), rfl, .lst (is ns), rfl, hlen, .int (ns.getD (k % (((is ns).length : Nat) : Int)).toNat 0), ?_, hK _⟩
    show atI (is ns) (k % (((is ns).length : Nat) : Int)) = _
    rw [e]
    have hh : (k % (((is ns).length : Nat) : Int)).toNat < ns.length := by rw [← is_map_len ns]; omega
    exact atI_is (getD_at hh)
  try dsimp only
  refine seq_mid (fun _ : Unit => [.ow (tinD ns (k + 1) r), .sh (.int m), .un, .sh (.int k), .sh (.int c), .un]) (fun K hK => ?_) (fun _ => ?_)
  · refine ⟨.lst (is ns), rfl, fun _ => ?_, fun _ => ⟨nofun, fun _ => hK ()⟩⟩
    refine ⟨pow_ok, fun h2 => ?_, fun _ => hK ()⟩
    have h2 : (10 : Int) ^ 18 ≤ (if c < 0 then -c else c) := of_decide_eq_true h2
    have hR : 0 ≤ 2 * ((if c < 0 then -c else c) - (10 : Int) ^ 18) + (if decide (c < 0) = true then (1 : Int) else 0) := by
      have : (0 : Int) ≤ if decide (c < 0) = true then (1 : Int) else 0 := by split <;> omega
      omega
    have s2 : IntMulOk 2 ((if c < 0 then -c else c) - (10 : Int) ^ 18) := small_mul (by decide)
    refine ⟨pow_ok, s2, ?_⟩
    refine ⟨⟨hm0, hmd.2⟩, 2, rfl, hm0, trivial, hQ _ _ _ (Int.emod_nonneg _ (by omega)) (Int.emod_lt_of_pos _ hm0) (by omega) (Int.le_refl _) (Int.ediv_nonneg hR (by omega))⟩
  have p1 : (0 : Int) < 2147483587 := by decide
  have p2 : (0 : Int) < 2147483549 := by decide
  have p3 : (0 : Int) < 2147483563 := by decide
  try dsimp only
  refine seq_mid (fun x : { x : Int // 0 ≤ x ∧ x < 2147483549 } => [.ow (tinD ns (k + 1) r), .sh (.int m), .un, .sh (.int k), .sh (.int c), .sh (.int x.1)]) (fun K hK => ?_) (fun x => ?_)
  · have a1 := Int.emod_nonneg c (show (2147483587 : Int) ≠ 0 by decide)
    have a2 := Int.emod_lt_of_pos c p1
    have cp : CPow (c % 2147483587 + 48611 * k + 6373) 5 := ⟨by decide, by decide, by omega⟩
    exact ⟨p1, hsm, cp, p2, hK ⟨_, Int.emod_nonneg _ (by decide), Int.emod_lt_of_pos _ p2⟩⟩
  obtain ⟨x, hx0, hx1⟩ := x
  try dsimp only
  refine seq_mid (fun x : { x : Int // 0 ≤ x ∧ x < 2147483563 } => [.ow (tinD ns (k + 1) r), .sh (.int m), .un, .sh (.int k), .sh (.int c), .sh (.int x.1)]) (fun K hK => ?_) (fun x => ?_)
  · have b1 : 0 ≤ x * (2 * k + 6373) := Int.mul_nonneg hx0 (by omega)
    have b2 : x * (2 * k + 6373) ≤ 2147483549 * 2103525 := Int.mul_le_mul (by omega) (by omega) (by omega) (by omega)
    have b3 : 0 ≤ 126719 * k * k := Int.mul_nonneg (by omega) hk
    have b4 : 126719 * k * k ≤ 126719 * 1048576 * 1048576 := Int.mul_le_mul (by omega) (by omega) hk (by omega)
    have cp : CPow (x * (2 * k + 6373) + 126719 * k * k + 48611) 3 := ⟨by decide, by decide, by omega⟩
    exact ⟨small_mul (by decide), small_mul (by show x.natAbs < _; omega), small_mul (by decide), small_mul (by show (126719 * k).natAbs < _; omega), cp, p3, hK ⟨_, Int.emod_nonneg _ (by decide), Int.emod_lt_of_pos _ p3⟩⟩
  have hd : CDivW x.1 64 := ⟨by decide, log_small (by decide)⟩
  exact ⟨hd, hm0, trivial, hQ _ _ _ (Int.emod_nonneg _ (by omega)) (Int.emod_lt_of_pos _ hm0) (by omega) (Int.le_refl _) hr0⟩
theorem _law_roll_ok (T : Fx K mg) : Cal P w K mg base 1 "_law_roll" 2 true φ__law_roll := by
  obtain ⟨fd, F⟩ := T.d__law_roll
  exact ⟨⟨fd, _, _law_roll_at T F, F.bindsN fun _ _ _ _ _ _ us hl => match us, hl with | [_, _], _ => rfl⟩, T.g__law_roll, T.k__law_roll⟩
def φ__law_pick : PCt := fun as Q => ∃ (ns some : List Int) (k r : Int), as = [.ow (tinD ns k r), .sh (.lst (is some))] ∧ 0 ≤ k ∧ k < 2 ^ 20 ∧ 0 ≤ r ∧ some ≠ [] ∧ some.length ≤ 100 ∧ ns.length ≤ 63 ∧   ∀ v k2 r2 : Int, v ∈ some → k ≤ k2 → k2 ≤ k + 1 → 0 ≤ r2 → Q false (.int v) [.ow (tinD ns k2 r2), .sh (.lst (is some))]
theorem _law_pick_at (T : Fx K mg) {fd : FuncData} (F : FunD K "_law_pick" "_law_pick" (defArgs (top 34)) (defBody (top 34)) (defScope (top 34)) [] [] (ga K "_law_pick") fd) : FnOk P w K mg base CX0 2 (ga K "_law_pick") fd ["tin", "some"] (spOf ⟨K, mg⟩ 2 true φ__law_pick) := by
  have S : FnScope ["tin", "some"] ["tin", "some"] (defScope (top 34)) := C8.fnScope_by (by kernel_rfl)
  refine funD_ok (n := 0) F S rfl fun cdv A outer s H E hr => ⟨_, (qss_one (qs_ret (qe_ix (qv 1) (qc (_law_roll_ok T) hr (qa_cons (qv 0) (qa_cons (qe_len rfl (by rfl) T.b_len (qa_cons (qv 1) (qa_nil))) (qa_nil))))))), fun as Q0 h => ?_⟩
  obtain ⟨ns, some, k, r, rfl, hk, hk2, hr0, hs, hs2, hl, hQ⟩ := h
  have hp : 0 < some.length := List.length_pos_iff.mpr hs
  refine ⟨rfl, ns, k, r, ((is some).length : Nat), rfl, hk, hk2, hr0, by rw [is_map_len]; omega, by rw [is_map_len]; omega, hl, fun v k2 r2 h1 h2 h3 h4 h5 => ?_⟩
  rw [is_map_len] at h2
  have e : v = ((v.toNat : Nat) : Int) := by omega
  refine ⟨.int (some.getD v.toNat 0), ?_, trivial, hQ _ k2 r2 ?_ h3 h4 h5⟩
  · rw [e]; exact atI_is (getD_at (by omega))
  · exact List.mem_of_getElem? (getD_at (by omega))
theorem _law_pick_ok (T : Fx K mg) : Cal P w K mg base 2 "_law_pick" 2 true φ__law_pick := by
  obtain ⟨fd, F⟩ := T.d__law_pick
  exact ⟨⟨fd, _, _law_pick_at T F, F.bindsN fun _ _ _ _ _ _ us hl => match us, hl with | [_, _], _ => rfl⟩, T.g__law_pick, T.k__law_pick⟩
def φ__law_any : PCt := fun as Q => ∃ (ns : List Int) (k r m : Int), as = [.ow (tinD ns k r), .sh (.int m)] ∧ 0 ≤ k ∧ k < 2 ^ 20 ∧ 0 ≤ r ∧ 0 ≤ m ∧ m < 1000 ∧ ns.length ≤ 63 ∧   ∀ v k2 r2 : Int, -m ≤ v → v ≤ m → k ≤ k2 → k2 ≤ k + 1 → 0 ≤ r2 → Q false (.int v) [.ow (tinD ns k2 r2), .sh (.int m)]
theorem _law_any_at (T : Fx K mg) {fd : FuncData} (F : FunD K "_law_any" "_law_any" (defArgs (top 35)) (defBody (top 35)) (defScope (top 35)) [] [] (ga K "_law_any") fd) : FnOk P w K mg base CX0 2 (ga K "_law_any") fd ["tin", "most"] (spOf ⟨K, mg⟩ 2 true φ__law_any) := by
  have S : FnScope ["tin", "most"] ["tin", "most"] (defScope (top 35)) := C8.fnScope_by (by kernel_rfl)
  refine funD_ok (n := 0) F S rfl fun cdv A outer s H E hr => ⟨_, (qss_one (qs_ret (qe_sub (qc (_law_roll_ok T) hr (qa_cons (qv 0) (qa_cons (qe_add (qe_mul qe_int (qv 1)) qe_int) (qa_nil)))) (qv 1)))), fun as Q0 h => ?_⟩
  obtain ⟨ns, k, r, m, rfl, hk, hk2, hr0, hm, hm2, hl, hQ⟩ := h
  refine ⟨small_mul (by decide), rfl, ns, k, r, 2 * m + 1, rfl, hk, hk2, hr0, by omega, by omega, hl, fun v k2 r2 h1 h2 h3 h4 h5 => ?_⟩
  exact ⟨trivial, hQ _ k2 r2 (by show -m ≤ v - m; omega) (by show v - m ≤ m; omega) h3 h4 h5⟩
theorem _law_any_ok (T : Fx K mg) : Cal P w K mg base 2 "_law_any" 2 true φ__law_any := by
  obtain ⟨fd, F⟩ := T.d__law_any
  exact ⟨⟨fd, _, _law_any_at T F, F.bindsN fun _ _ _ _ _ _ us hl => match us, hl with | [_, _], _ => rfl⟩, T.g__law_any, T.k__law_any⟩
def φ__law_gcd : PCt := fun as Q => ∃ a b : Int, as = [.sh (.int a), .sh (.int b)] ∧ b.natAbs < 20000 ∧ Q false (.int (Int.gcd a b)) as
theorem _law_gcd_at (T : Fx K mg) {fd : FuncData} (F : FunD K "_law_gcd" "_law_gcd" (defArgs (top 36)) (defBody (top 36)) (defScope (top 36)) [] [] (ga K "_law_gcd") fd) : FnOk P w K mg base CX0 1 (ga K "_law_gcd") fd ["one", "other"] (spOf ⟨K, mg⟩ 2 false φ__law_gcd) := by
  have S : FnScope ["one", "other", "a", "b", "lap"] ["one", "other"] (defScope (top 36)) := C8.fnScope_by (by kernel_rfl)
  refine funD_ok (n := 3) F S rfl fun cdv A outer s H E hr => ⟨_, (qss_cons (qs_par (i := 2) (j := 3) (by rfl) S.nd (by rfl) (by rfl) (by decide) (by rfl) (by rfl) (qa_cons (qe_callB call_abs sim_abs (by rfl) T.b_abs boot_abs (qa_cons (qv 0) (qa_nil))) (qa_cons (qe_callB call_abs sim_abs (by rfl) T.b_abs boot_abs (qa_cons (qv 1) (qa_nil))) (qa_nil))) (by rfl))
      (qss_cons (qs_for PassesOwn.never (by rfl) (qi_range1 (by rfl) T.b_range (qa_cons qe_int (qa_nil))) (qg_name (i := 4) S.nd (by rfl) (by first | exact Or.inl rfl | exact Or.inr rfl)) (qss_cons (qs_if (qt_cmp (op_eqD hr.units) sim_eq (qv 3) qe_int (nomark _)) (qss_one (qs_ret (qv 2))) qss_nil)
      (qss_one (qs_par (i := 2) (j := 3) (by rfl) S.nd (by rfl) (by rfl) (by decide) (by rfl) (by rfl) (qa_cons (qv 3) (qa_cons (qe_mod (qe_callTy call_int1 sim_int (by rfl) T.b_int boot_int (qa_cons (qv 2) (qa_nil))) (qv 3)) (qa_nil))) (by rfl)))))
      (qss_one (qs_ret (qv 2))))), fun as Q0 h => ?_⟩
  obtain ⟨a, b, rfl, hb0, hQ⟩ := h
  have ab : ∀ i : Int, (if i < 0 then -i else i) = (i.natAbs : Int) := fun i => by split <;> omega
  refine ⟨⟨by decide, by decide⟩, ?_⟩
  refine ⟨fun i Γ => ∃ x y : Int, Γ = [.sh (.int a), .sh (.int b), .sh (.int x), .sh (.int y), .un] ∧ 0 ≤ x ∧ 0 ≤ y ∧ (y = 0 ∨ y + i ≤ b.natAbs) ∧ Int.gcd x y = Int.gcd a b, ⟨[.sh (.int a), .sh (.int b), .sh (.int (if a < 0 then -a else a)), .sh (.int (if b < 0 then -b else b)), .un], ⟨.inr rfl, .inr rfl, .inr rfl, .inr rfl, .inl rfl, trivial⟩, _, _, rfl, ?_, ?_, ?_, ?_⟩, fun i x Γ hx hI => ?_, fun Γ hI => ?_⟩
  · rw [ab]; omega
  · rw [ab]; omega
  · rw [ab]; right; simp
  · rw [ab, ab]; simp [Int.gcd]
  · obtain ⟨x, y, rfl, hx0, hy0, hd, hg⟩ := hI
    obtain ⟨_, rfl⟩ := getE_ints hx
    refine ⟨rfl, rfl, fun hb => ?_, fun hb => ?_⟩
    · rw [eqb_int] at hb
      have hy : y = 0 := of_decide_eq_true hb
      have e : x = (Int.gcd a b : Nat) := by rw [← hg, hy, Int.gcd_zero_right]; omega
      refine ⟨trivial, ?_⟩
      show Q0 false (.int x) _
      rw [e]; exact hQ
    · rw [eqb_int] at hb
      have hy : 0 < y := by have := of_decide_eq_false hb; omega
      have h1 := Int.emod_nonneg x (show y ≠ 0 by omega)
      have h2 := Int.emod_lt_of_pos x hy
      refine ⟨hy, [.sh (.int a), .sh (.int b), .sh (.int y), .sh (.int (x % y)), .un], ⟨.inr rfl, .inr rfl, .inr rfl, .inr rfl, .inl rfl, trivial⟩, y, x % y, rfl, by omega, h1, by omega, ?_⟩
      rw [← hg, Int.gcd_comm x y]
      exact gcd_mod x y
  · obtain ⟨x, y, rfl, hx0, hy0, hd, hg⟩ := hI
    have hlen : (rangeD 0 (20000 : Int).toNat).length = 20000 := by unfold rangeD; rw [List.length_map, List.length_range]; rfl
    have hy : y = 0 := by
      have hd' : y = 0 ∨ y + ((rangeD 0 (20000 : Int).toNat).length : Nat) ≤ b.natAbs := hd
      rw [hlen] at hd'; omega
    have e : x = (Int.gcd a b : Nat) := by rw [← hg, hy, Int.gcd_zero_right]; omega
    refine ⟨trivial, ?_⟩
    show Q0 false (.int x) _
    rw [e]; exact hQ
theorem _law_gcd_ok (T : Fx K mg) : Cal P w K mg base 1 "_law_gcd" 2 false φ__law_gcd := by
  obtain ⟨fd, F⟩ := T.d__law_gcd
  exact ⟨⟨fd, _, _law_gcd_at T F, F.bindsN fun _ _ _ _ _ _ us hl => match us, hl with | [_, _], _ => rfl⟩, T.g__law_gcd, T.k__law_gcd⟩
def φ__law_gcd_of : PCt := fun as Q => ∃ ns : List Int, as = [.sh (.lst (is ns))] ∧ (∀ n ∈ ns, n.natAbs < 20000) ∧ Q false (.int (gcdL ns)) as
theorem _law_gcd_of_at (T : Fx K mg) {fd : FuncData} (F : FunD K "_law_gcd_of" "_law_gcd_of" (defArgs (top 37)) (defBody (top 37)) (defScope (top 37)) [] [] (ga K "_law_gcd_of") fd) : FnOk P w K mg base CX0 2 (ga K "_law_gcd_of") fd ["numbers"] (spOf ⟨K, mg⟩ 1 false φ__law_gcd_of) := by
  have S : FnScope ["numbers", "out", "number"] ["numbers"] (defScope (top 37)) := C8.fnScope_by (by kernel_rfl)
  refine funD_ok (n := 2) F S rfl fun cdv A outer s H E hr => ⟨_, (qss_cons (qs_set (i := 1) S.nd (by rfl) (by first | exact Or.inl rfl | exact Or.inr rfl) qe_int)
      (qss_cons (qs_for PassesOwn.never (by rfl) (qi_seq (qv 0)) (qg_name (i := 2) S.nd (by rfl) (by first | exact Or.inl rfl | exact Or.inr rfl)) (qss_one (qs_set (i := 1) S.nd (by rfl) (by first | exact Or.inl rfl | exact Or.inr rfl) (qc (_law_gcd_ok T) hr (qa_cons (qv 1) (qa_cons (qv 2) (qa_nil)))))))
      (qss_one (qs_ret (qv 1))))), fun as Q0 h => ?_⟩
  obtain ⟨ns, rfl, hb, hQ⟩ := h
  refine for_eq (fun i => [.sh (.lst (is ns)), .sh (.int (gcdL (ns.take i))), .un]) ⟨.inr rfl, .inr rfl, .inl rfl, trivial⟩ (fun i x hx => ?_) ?_
  · obtain ⟨m, rfl, hxi⟩ := get_is hx
    refine ⟨rfl, _, _, rfl, hb m (List.mem_of_getElem? hxi), upq ⟨.inr rfl, .inr ?_, .inl rfl, trivial⟩⟩
    show Sl.sh (.int (Int.gcd _ m)) = _
    rw [take_snoc hxi, gcdL_snoc]
  · refine ⟨trivial, ?_⟩
    rw [is_map_len, List.take_length]
    exact hQ
theorem _law_gcd_of_ok (T : Fx K mg) : Cal P w K mg base 2 "_law_gcd_of" 1 false φ__law_gcd_of := by
  obtain ⟨fd, F⟩ := T.d__law_gcd_of
  exact ⟨⟨fd, _, _law_gcd_of_at T F, F.bindsN fun _ _ _ _ _ _ us hl => match us, hl with | [_], _ => rfl⟩, T.g__law_gcd_of, T.k__law_gcd_of⟩
def φ__law_run_of : PCt := fun as Q => ∃ xs ys : List Int, as = [.sh (.lst (is xs)), .sh (.lst (is ys))] ∧ xs ≠ [] ∧ ys ≠ [] ∧ xs.length + ys.length ≤ 100 ∧ (∀ x ∈ xs, x.natAbs < 2 ^ 64) ∧ Q true (.lst (is (conv xs ys))) as
theorem _law_run_of_at (T : Fx K mg) {fd : FuncData} (F : FunD K "_law_run_of" "_law_run_of" (defArgs (top 38)) (defBody (top 38)) (defScope (top 38)) [] [] (ga K "_law_run_of") fd) : FnOk P w K mg base CX0 1 (ga K "_law_run_of") fd ["one", "other"] (spOf ⟨K, mg⟩ 2 false φ__law_run_of) := by
  have S : FnScope ["one", "other", "out", "at", "number", "spot", "its"] ["one", "other"] (defScope (top 38)) := C8.fnScope_by (by kernel_rfl)
  refine funD_ok (n := 5) F S rfl fun cdv A outer s H E hr => ⟨_, (qss_cons (qs_set (i := 2) S.nd (by rfl) (by first | exact Or.inl rfl | exact Or.inr rfl) (qe_mul (qe_lst (qa_cons qe_int (qa_nil))) (qe_sub (qe_add (qe_len rfl (by rfl) T.b_len (qa_cons (qv 0) (qa_nil))) (qe_len rfl (by rfl) T.b_len (qa_cons (qv 1) (qa_nil)))) qe_int)))
      (qss_cons (qs_for PassesOwn.never (by rfl) (qi_enum (by rfl) T.b_enumerate (qa_cons (qv 0) (qa_nil))) (qg_tup (n := 2) (by rfl) (qgs_cons (qg_name (i := 3) S.nd (by rfl) (by first | exact Or.inl rfl | exact Or.inr rfl)) (qgs_cons (qg_name (i := 4) S.nd (by rfl) (by first | exact Or.inl rfl | exact Or.inr rfl)) qgs_nil))) (qss_one (qs_for PassesOwn.never (by rfl) (qi_enum (by rfl) T.b_enumerate (qa_cons (qv 1) (qa_nil))) (qg_tup (n := 2) (by rfl) (qgs_cons (qg_name (i := 5) S.nd (by rfl) (by first | exact Or.inl rfl | exact Or.inr rfl)) (qgs_cons (qg_name (i := 6) S.nd (by rfl) (by first | exact Or.inl rfl | exact Or.inr rfl)) qgs_nil))) (qss_one (qs_augIx (qv 2) (qe_add (qv 3) (qv 5)) (qe_mul (qv 4) (qv 6)))))))
      (qss_one (qs_ret (qv 2))))), fun as Q0 h => ?_⟩
  obtain ⟨xs, ys, rfl, hx0, hy0, hl, hm, hQ⟩ := h
  have hx1 : 0 < xs.length := List.length_pos_iff.mpr hx0
  have hy1 : 0 < ys.length := List.length_pos_iff.mpr hy0
  have en : ((is xs).length : Int) + (is ys).length - 1 = ((xs.length + ys.length - 1 : Nat) : Int) := by rw [is_map_len, is_map_len]; omega
  have c1 : -(2 ^ 63) ≤ ((is xs).length : Int) + (is ys).length - 1 ∧ ((is xs).length : Int) + (is ys).length - 1 < 2 ^ 63 ∧ [D.int 0].length * (((is xs).length : Int) + (is ys).length - 1).toNat ≤ sizeLine := by
    rw [en, Int.toNat_natCast]
    exact ⟨by omega, by omega, by show 1 * _ ≤ _; exact le_line (by omega)⟩
  refine ⟨le_line (by decide), c1, ?_⟩
  refine for_eq (fun i => [.sh (.lst (is xs)), .sh (.lst (is ys)), .ow (.lst (is (mulAcc (List.replicate (xs.length + ys.length - 1) 0) 0 (xs.take i) ys))), .un, .un, .un, .un]) ⟨.inr rfl, .inr rfl, .inr ?_, .inl rfl, .inl rfl, .inl rfl, .inl rfl, trivial⟩ (fun i x hx => ?_) ?_
  · show Sl.ow (.lst (List.replicate (((is xs).length : Int) + (is ys).length - 1).toNat [D.int 0]).flatten) = _
    rw [en, Int.toNat_natCast, rep0]; rfl
  · obtain ⟨d, hd, rfl⟩ := enumD_get hx
    obtain ⟨m, rfl, hxi⟩ := get_is hd
    have hi := (List.getElem?_eq_some_iff.mp hxi).1
    refine ⟨rfl, ?_⟩
    refine for_eq (fun s => [.sh (.lst (is xs)), .sh (.lst (is ys)), .ow (.lst (is (rowAdd (mulAcc (List.replicate (xs.length + ys.length - 1) 0) 0 (xs.take i) ys) i m (ys.take s)))), .sh (.int ((0 + i : Nat) : Int)), .sh (.int m), .un, .un]) (Wk.refl _) (fun s y hy => ?_) (upq ?_)
    · obtain ⟨d, hd, rfl⟩ := enumD_get hy
      obtain ⟨n, rfl, hys⟩ := get_is hd
      have hs := (List.getElem?_eq_some_iff.mp hys).1
      have hF : (rowAdd (mulAcc (List.replicate (xs.length + ys.length - 1) 0) 0 (xs.take i) ys) i m (ys.take s)).length = xs.length + ys.length - 1 := by rw [rowAdd_len, mulAcc_len, List.length_replicate]
      have e : ((0 + i : Nat) : Int) + ((0 + s : Nat) : Int) = ((i + s : Nat) : Int) := by omega
      have hlt : i + s < (rowAdd (mulAcc (List.replicate (xs.length + ys.length - 1) 0) 0 (xs.take i) ys) i m (ys.take s)).length := by rw [hF]; omega
      refine ⟨rfl, .int _, (by rw [e]; exact atI_is (getD_at hlt) : atI _ (((0 + i : Nat) : Int) + ((0 + s : Nat) : Int)) = _), small_mul (hm m (List.mem_of_getElem? hxi)), i + s, (by rw [e, is_map_len]; exact PL.ixN_nat' hlt : ixN _ (((0 + i : Nat) : Int) + ((0 + s : Nat) : Int)) = _), upq ⟨.inr rfl, .inr rfl, .inr ?_, .inr rfl, .inr rfl, .inl rfl, .inl rfl, trivial⟩⟩
      show Sl.ow (.lst ((is _).set (i + s) (.int _))) = _
      rw [set_is, take_snoc hys, rowAdd_snoc, List.length_take, Nat.min_eq_left (by omega)]
    · refine ⟨.inr rfl, .inr rfl, .inr ?_, .inl rfl, .inl rfl, .inl rfl, .inl rfl, trivial⟩
      rw [enumD_len, is_map_len, List.take_length, take_snoc hxi, mulAcc_snoc, List.length_take, Nat.min_eq_left (by omega), Nat.zero_add]
  · refine ⟨trivial, rfl, ?_⟩
    rw [enumD_len, is_map_len, List.take_length]
    exact hQ
theorem _law_run_of_ok (T : Fx K mg) : Cal P w K mg base 1 "_law_run_of" 2 false φ__law_run_of := by
  obtain ⟨fd, F⟩ := T.d__law_run_of
  exact ⟨⟨fd, _, _law_run_of_at T F, F.bindsN fun _ _ _ _ _ _ us hl => match us, hl with | [_, _], _ => rfl⟩, T.g__law_run_of, T.k__law_run_of⟩
def φ__law_strip : PCt := fun as Q => ∃ (ns : List Int) (k r l m : Int), as = [.ow (tinD ns k r), .sh (.int l), .sh (.int m)] ∧ 0 ≤ k ∧ k < 2 ^ 19 ∧ 0 ≤ r ∧ 0 ≤ l ∧ l ≤ 30 ∧ 2 ≤ m ∧ m < 1000 ∧ ns.length ≤ 63 ∧   ∀ (xs : List Int) (k2 r2 : Int), OkR xs → (xs.length : Int) = l + 1 → (∀ x ∈ xs, -m ≤ x ∧ x ≤ m) → k ≤ k2 → k2 ≤ k + 40 → 0 ≤ r2 → Q true (.lst (is xs)) [.ow (tinD ns k2 r2), .sh (.int l), .sh (.int m)]
theorem _law_strip_at (T : Fx K mg) {fd : FuncData} (F : FunD K "_law_strip" "_law_strip" (defArgs (top 39)) (defBody (top 39)) (defScope (top 39)) [] [] (ga K "_law_strip") fd) : FnOk P w K mg base CX0 3 (ga K "_law_strip") fd ["tin", "length", "most"] (spOf ⟨K, mg⟩ 3 true φ__law_strip) := by
  have S : FnScope ["tin", "length", "most", "out", "at"] ["tin", "length", "most"] (defScope (top 39)) := C8.fnScope_by (by kernel_rfl)
  refine funD_ok (n := 2) F S rfl fun cdv A outer s H E hr => ⟨_, (qss_cons (qs_setLc (i := 3) (own := [("at", 4)]) (by rfl) S.nd (by rfl) (by rfl) (by rfl) (qi_range1 (by rfl) T.b_range (qa_cons (qe_add (qv 1) qe_int) (qa_nil))) (blk_of (by kernel_rfl)) (fun _ _ _ _ _ => (qg_name (i := 4) S.nd (by rfl) (by first | exact Or.inl rfl | exact Or.inr rfl))) (fun _ _ _ _ _ => qts_nil) (fun _ _ _ _ _ => (qc (_law_any_ok T) hr (qa_cons (qv 0) (qa_cons (qv 2) (qa_nil))))))
      (qss_cons (qs_for PassesOwn.never (by rfl) (qi_seq (qe_tup (qa_cons qe_int (qa_cons (qv 1) (qa_nil))))) (qg_name (i := 4) S.nd (by rfl) (by first | exact Or.inl rfl | exact Or.inr rfl)) (qss_one (qs_if (qt_cmp (op_eqD hr.units) sim_eq (qe_ix (qv 3) (qv 4)) qe_int (nomark _)) (qss_one (qs_setIx (qc (_law_pick_ok T) hr (qa_cons (qv 0) (qa_cons (qe_lst (qa_cons qe_int (qa_cons (qe_neg qe_int) (qa_cons qe_int (qa_nil))))) (qa_nil)))) (qv 3) (qv 4))) qss_nil)))
      (qss_one (qs_ret (qv 3))))), fun as Q0 h => ?_⟩
  obtain ⟨ns, k, r, l, m, rfl, hk, hk2, hr0, hl0, hl1, hm, hm2, hl, hQ⟩ := h
  have hrl : (rangeD 0 (l + 1).toNat).length = (l + 1).toNat := by unfold rangeD; rw [List.length_map, List.length_range]
  refine seq_mid (fun z : { z : List Int × Int × Int // (z.1.length : Int) = l + 1 ∧ (∀ x ∈ z.1, -m ≤ x ∧ x ≤ m) ∧ k ≤ z.2.1 ∧ z.2.1 ≤ k + 31 ∧ 0 ≤ z.2.2 } => [.ow (tinD ns z.1.2.1 z.1.2.2), .sh (.int l), .sh (.int m), .ow (.lst (is z.1.1)), .un]) (fun K hK => ?_) (fun z => ?_)
  · have c0 : -(2 ^ 62) ≤ l + 1 ∧ l + 1 < 2 ^ 62 := ⟨by omega, by omega⟩
    refine ⟨c0, ?_⟩
    refine ⟨fun i acc Γ => ∃ (xs : List Int) (k2 r2 : Int), acc = is xs ∧ Γ = [.ow (tinD ns k2 r2), .sh (.int l), .sh (.int m), .un, .un] ∧ xs.length = i ∧ (∀ x ∈ xs, -m ≤ x ∧ x ≤ m) ∧ k ≤ k2 ∧ k2 ≤ k + i ∧ 0 ≤ r2, ⟨[], k, r, rfl, rfl, rfl, (fun x hx => nomatch hx), Int.le_refl _, by omega, hr0⟩, fun i x acc Γ hx hI => ⟨fun _ => ?_, nofun⟩, fun acc Γ hI => ?_⟩
    · obtain ⟨hi, rfl⟩ := getE_ints hx
      obtain ⟨xs, k2, r2, rfl, rfl, hlen, hb, a1, a2, a3⟩ := hI
      refine ⟨rfl, ns, k2, r2, m, rfl, by omega, by omega, a3, by omega, hm2, hl, fun v k3 r3 h1 h2 h3 h4 h5 => ⟨?_, xs ++ [v], k3, r3, by simp [is], rfl, by simp [hlen], fun x hx => ?_, by omega, by omega, h5⟩⟩
      · have : xs.length < sizeLine := by show _ < 2 ^ 24; omega
        rw [is_map_len]; exact this
      · rcases List.mem_append.mp hx with z | z
        · exact hb x z
        · have : x = v := by simpa using z
          subst this; exact ⟨h1, h2⟩
    · obtain ⟨xs, k2, r2, rfl, rfl, hlen, hb, a1, a2, a3⟩ := hI
      rw [hrl] at hlen a2
      exact hK ⟨(xs, k2, r2), by show (xs.length : Int) = _; omega, hb, a1, by show k2 ≤ _; omega, a3⟩
  obtain ⟨⟨ys, k1, r1⟩, hy1, hy2, hy3, hy4, hy5⟩ := z
  have hy1 : (ys.length : Int) = l + 1 := hy1
  have hy3 : k ≤ k1 := hy3
  have hy4 : k1 ≤ k + 31 := hy4
  have hy5 : 0 ≤ r1 := hy5
  have hy2 : ∀ x ∈ ys, -m ≤ x ∧ x ≤ m := hy2
  refine ⟨le_line (by show (2 : Nat) ≤ 1000; omega), ?_⟩
  refine ⟨fun j Γ => ∃ (xs : List Int) (k2 r2 : Int), Γ = [.ow (tinD ns k2 r2), .sh (.int l), .sh (.int m), .ow (.lst (is xs)), .un] ∧ (xs.length : Int) = l + 1 ∧ (∀ x ∈ xs, -m ≤ x ∧ x ≤ m) ∧ k ≤ k2 ∧ k2 ≤ k + 31 + j ∧ 0 ≤ r2 ∧ (1 ≤ j → xs.getD 0 0 ≠ 0) ∧ (2 ≤ j → xs.getD l.toNat 0 ≠ 0), ⟨[.ow (tinD ns k1 r1), .sh (.int l), .sh (.int m), .ow (.lst (is ys)), .un], Wk.refl _, ys, k1, r1, rfl, hy1, hy2, hy3, by omega, hy5, by omega, by omega⟩, fun j x Γ hx hI => ?_, fun Γ hI => ?_⟩
  · obtain ⟨xs, k2, r2, rfl, hlen, hb, a1, a2, a3, a4, a5⟩ := hI
    have hp : ∃ p : Nat, x = .int (p : Int) ∧ p < xs.length ∧ ((j = 0 ∧ p = 0) ∨ (j = 1 ∧ p = l.toNat)) := by
      match j, hx with
      | 0, hx => exact ⟨0, by have : D.int 0 = x := by simpa using hx
                              rw [← this]; rfl, by omega, .inl ⟨rfl, rfl⟩⟩
      | 1, hx => exact ⟨l.toNat, by have : D.int l = x := by simpa using hx
                                    rw [← this, Int.toNat_of_nonneg hl0], by omega, .inr ⟨rfl, rfl⟩⟩
      | j + 2, hx => simp at hx
    obtain ⟨p, rfl, hpl, hjp⟩ := hp
    refine ⟨.int (xs.getD p 0), atI_is (getD_at hpl), rfl, rfl, fun hz => ?_, fun hz => ?_⟩
    · refine ⟨le_line (by show (3 : Nat) ≤ 1000; omega), rfl, ns, [1, -1, 2], k2, r2, rfl, by omega, by omega, a3, by simp, by show (3 : Nat) ≤ 100; omega, hl, fun v k3 r3 hv h3 h4 h5 => ?_⟩
      have hv0 : v ≠ 0 ∧ -m ≤ v ∧ v ≤ m := by
        have : v = 1 ∨ v = -1 ∨ v = 2 := by simpa using hv
        omega
      refine ⟨p, by rw [is_map_len]; exact PL.ixN_nat' hpl, [.ow (tinD ns k3 r3), .sh (.int l), .sh (.int m), .ow (.lst (is (xs.set p v))), .un], ⟨.inr rfl, .inr rfl, .inr rfl, .inr ?_, .inl rfl, trivial⟩, xs.set p v, k3, r3, rfl, by rw [List.length_set]; exact hlen, fun x hx => ?_, by omega, by omega, h5, fun _ => ?_, fun hj => ?_⟩
      · show Sl.ow (.lst ((is xs).set p (.int v))) = _
        rw [set_is]
      · rcases List.mem_or_eq_of_mem_set hx with z | z
        · exact hb x z
        · rw [z]; exact hv0.2
      · rw [getD_set hpl]
        split
        · exact hv0.1
        · rename_i q
          rcases hjp with ⟨z, z2⟩ | ⟨z, z2⟩
          · exact absurd z2 q
          · exact a4 (by omega)
      · rw [getD_set hpl]
        split
        · exact hv0.1
        · rename_i q
          rcases hjp with ⟨z, z2⟩ | ⟨z, z2⟩
          · omega
          · exact absurd z2 q
    · rw [eqb_int] at hz
      have hz : xs.getD p 0 ≠ 0 := of_decide_eq_false hz
      refine ⟨[.ow (tinD ns k2 r2), .sh (.int l), .sh (.int m), .ow (.lst (is xs)), .un], ⟨.inr rfl, .inr rfl, .inr rfl, .inr rfl, .inl rfl, trivial⟩, xs, k2, r2, rfl, hlen, hb, a1, by omega, a3, fun _ => ?_, fun hj => ?_⟩
      · rcases hjp with ⟨z, z2⟩ | ⟨z, z2⟩
        · rw [z2] at hz; exact hz
        · exact a4 (by omega)
      · rcases hjp with ⟨z, z2⟩ | ⟨z, z2⟩
        · omega
        · rw [z2] at hz; exact hz
  · obtain ⟨xs, k2, r2, rfl, hlen, hb, a1, a2, a3, a4, a5⟩ := hI
    have a2 : k2 ≤ k + 31 + 2 := a2
    refine ⟨trivial, rfl, hQ xs k2 r2 ⟨⟨_, getD_at (by omega), a4 (by show 1 ≤ 2; omega)⟩, ⟨_, ?_, a5 (by show 2 ≤ 2; omega)⟩⟩ hlen hb a1 (by omega) a3⟩
    rw [List.getLast?_eq_getElem?]
    have e : xs.length - 1 = l.toNat := by omega
    rw [e]; exact getD_at (by omega)
theorem _law_strip_ok (T : Fx K mg) : Cal P w K mg base 3 "_law_strip" 3 true φ__law_strip := by
  obtain ⟨fd, F⟩ := T.d__law_strip
  exact ⟨⟨fd, _, _law_strip_at T F, F.bindsN fun _ _ _ _ _ _ us hl => match us, hl with | [_, _, _], _ => rfl⟩, T.g__law_strip, T.k__law_strip⟩
def φ__law_plain : PCt := fun as Q => ∃ ns : List Int, as = [.sh (.lst (is ns))] ∧ OkR ns ∧ ns.length ≤ 100 ∧ (∀ n ∈ ns, n.natAbs < 20000) ∧ Q true (.lst (is (plainL ns))) as
theorem _law_plain_at (T : Fx K mg) {fd : FuncData} (F : FunD K "_law_plain" "_law_plain" (defArgs (top 40)) (defBody (top 40)) (defScope (top 40)) [] [] (ga K "_law_plain") fd) : FnOk P w K mg base CX0 3 (ga K "_law_plain") fd ["row"] (spOf ⟨K, mg⟩ 1 false φ__law_plain) := by
  have S : FnScope ["row", "size", "number"] ["row"] (defScope (top 40)) := C8.fnScope_by (by kernel_rfl)
  refine funD_ok (n := 2) F S rfl fun cdv A outer s H E hr => ⟨_, (qss_cons (qs_set (i := 1) S.nd (by rfl) (by first | exact Or.inl rfl | exact Or.inr rfl) (qe_ifE (qt_cmp op_gt sim_B0 (qe_ix (qv 0) (qe_neg qe_int)) qe_int (nomark _)) (qc (_law_gcd_of_ok T) hr (qa_cons (qv 0) (qa_nil))) (qe_neg (qc (_law_gcd_of_ok T) hr (qa_cons (qv 0) (qa_nil))))))
      (qss_one (qs_ret (qe_lc (own := [("number", 2)]) (by rfl) S.nd (qi_seq (qv 0)) (blk_of (by kernel_rfl)) (fun _ _ _ _ _ => (qg_name (i := 2) S.nd (by rfl) (by first | exact Or.inl rfl | exact Or.inr rfl))) (fun _ _ _ _ _ => qts_nil) (fun _ _ _ _ _ => (qe_divZ (qv 2) (qv 1))))))), fun as Q0 h => ?_⟩
  obtain ⟨ns, rfl, hok, hlen, hb, hQ⟩ := h
  obtain ⟨lm, ln, le⟩ := hok.last
  have gp := gcdL_pos lm ln
  have gl := gcdL_le lm ln
  have gb := hb _ lm
  have fin : ∀ sz : Int, sz = (if 0 < ns.getLastD 0 then (gcdL ns : Int) else -(gcdL ns : Int)) → LcK (is ns) [.sh (.lst (is ns)), .sh (.int sz), .un] (gN 2) pYes (pBin oDivZ (pVar 2) (pVar 1)) [2] (fun r Γ1 => (fnEnds [.sh (.lst (is ns))] Q0).rt r Γ1) := fun sz hsz => by
    have hs0 : sz ≠ 0 := by rw [hsz]; split <;> omega
    have hsa : sz.natAbs < 2 ^ 62 := by
      rw [hsz]
      split <;> omega
    refine lc1 (fun d => match d with | .int n => .int (n.fdiv sz) | d => d) (by rw [is_map_len]; exact le_line (by omega)) (fun x K hx hK => ?_) ?_
    · obtain ⟨n, _, rfl⟩ := List.mem_map.mp hx
      exact ⟨⟨hs0, log_small hsa⟩, hK⟩
    · refine ⟨trivial, ?_⟩
      have e : (is ns).map (fun d => match d with | .int n => D.int (n.fdiv sz) | d => d) = is (plainL ns) := by
        unfold plainL
        rw [is, is, List.map_map, List.map_map]
        refine List.map_congr_left fun n hn => ?_
        show D.int (n.fdiv sz) = .int (if 0 < ns.getLastD 0 then _ else _)
        rw [hsz]
        split
        · rw [Int.fdiv_eq_ediv_of_nonneg _ (by omega)]
        · rw [fdiv_neg' (by omega) (gcdL_dvd hn)]
      rw [e]; exact hQ
  refine ⟨.int (ns.getLastD 0), atI_lastq le, fun h0 => ?_, fun h0 => ?_⟩
  · have h0 : 0 < ns.getLastD 0 := of_decide_eq_true h0
    exact ⟨rfl, ns, rfl, hb, fin _ (by rw [if_pos h0])⟩
  · have h0 : ¬ 0 < ns.getLastD 0 := of_decide_eq_false h0
    exact ⟨rfl, ns, rfl, hb, fin _ (by rw [if_neg h0])⟩
theorem _law_plain_ok (T : Fx K mg) : Cal P w K mg base 3 "_law_plain" 1 false φ__law_plain := by
  obtain ⟨fd, F⟩ := T.d__law_plain
  exact ⟨⟨fd, _, _law_plain_at T F, F.bindsN fun _ _ _ _ _ _ us hl => match us, hl with | [_], _ => rfl⟩, T.g__law_plain, T.k__law_plain⟩
def φ__law_same : PCt := fun as Q => ∃ (ns : List Int) (k r l : Int), as = [.ow (tinD ns k r), .sh (.int l)] ∧ 0 ≤ k ∧ k < 2 ^ 19 ∧ 0 ≤ r ∧ 0 ≤ l ∧ l ≤ 40 ∧ ns.length ≤ 63 ∧   ∀ (xs : List Int) (k2 r2 : Int), OkR xs → (xs.length : Int) ≤ l + 2 → (∀ x ∈ xs, x.natAbs ≤ 7) → k ≤ k2 → k2 ≤ k + 41 → 0 ≤ r2 → Q true (.lst (is xs)) [.ow (tinD ns k2 r2), .sh (.int l)]
theorem _law_same_at (T : Fx K mg) {fd : FuncData} (F : FunD K "_law_same" "_law_same" (defArgs (top 41)) (defBody (top 41)) (defScope (top 41)) [] [] (ga K "_law_same") fd) : FnOk P w K mg base CX0 4 (ga K "_law_same") fd ["tin", "length"] (spOf ⟨K, mg⟩ 2 true φ__law_same) := by
  have S : FnScope ["tin", "length", "half", "way", "number"] ["tin", "length"] (defScope (top 41)) := C8.fnScope_by (by kernel_rfl)
  refine funD_ok (n := 3) F S rfl fun cdv A outer s H E hr => ⟨_, (qss_cons (qs_set (i := 2) S.nd (by rfl) (by first | exact Or.inl rfl | exact Or.inr rfl) (qc (_law_strip_ok T) hr (qa_cons (qv 0) (qa_cons (qe_div (qv 1) qe_int) (qa_cons qe_int (qa_nil))))))
      (qss_cons (qs_set (i := 3) S.nd (by rfl) (by first | exact Or.inl rfl | exact Or.inr rfl) (qc (_law_roll_ok T) hr (qa_cons (qv 0) (qa_cons qe_int (qa_nil)))))
      (qss_cons (qs_if (qt_cmp (op_eqD hr.units) sim_eq (qv 3) qe_int (nomark _)) (qss_one (qs_ret (qe_add (qv 2) (qe_rev (qv 2))))) qss_nil)
      (qss_one (qs_ret (qe_ifE (qt_cmp (op_eqD hr.units) sim_eq (qv 3) qe_int (nomark _)) (qe_add (qv 2) (qe_lc (own := [("number", 4)]) (by rfl) S.nd (qi_seq (qe_rev (qv 2))) (blk_of (by kernel_rfl)) (fun _ _ _ _ _ => (qg_name (i := 4) S.nd (by rfl) (by first | exact Or.inl rfl | exact Or.inr rfl))) (fun _ _ _ _ _ => qts_nil) (fun _ _ _ _ _ => (qe_neg (qv 4))))) (qe_add (qe_add (qe_sl (qv 2) qo_none (qo_some (qe_neg qe_int))) (qe_lst (qa_cons qe_int (qa_nil)))) (qe_rev (qe_sl (qv 2) qo_none (qo_some (qe_neg qe_int))))))))))), fun as Q0 h => ?_⟩
  obtain ⟨ns, k, r, l, rfl, hk, hk2, hr0, hl0, hl1, hl, hQ⟩ := h
  have hd : CDivW l 2 := ⟨by decide, log_small (by decide)⟩
  refine ⟨hd, rfl, ns, k, r, l / 2, 4, rfl, hk, hk2, hr0, by omega, by omega, by decide, by decide, hl, fun xs k2 r2 hok hlen hb h1 h2 h3 => ?_⟩
  refine ⟨rfl, ns, k2, r2, 3, rfl, by omega, by omega, h3, by decide, by decide, hl, fun v k3 r3 v0 v1 h4 h5 h6 => ?_⟩
  have hL : xs.length ≤ 21 := by omega
  have er : (is xs).reverse = is xs.reverse := (is_rev xs).symm
  have hb7 : ∀ x ∈ xs, x.natAbs ≤ 7 := fun x hx => by have := hb x hx; omega
  refine ⟨rfl, rfl, fun e => ?_, fun e => ?_⟩
  · have hz : (is xs).length + (is xs).reverse.length ≤ sizeLine := by rw [List.length_reverse, is_map_len]; exact le_line (by omega)
    refine ⟨hz, trivial, ?_⟩
    show Q0 true (.lst (is xs ++ (is xs).reverse)) _
    rw [er, ← is_app]
    refine hQ _ k3 r3 (okR_app hok hok.rev) (by rw [List.length_append, List.length_reverse]; omega) (fun x hx => ?_) (by omega) (by omega) h6
    rcases List.mem_append.mp hx with z | z
    · exact hb7 x z
    · exact hb7 x (List.mem_reverse.mp z)
  refine ⟨rfl, rfl, fun e1 => ?_, fun e1 => ?_⟩
  · refine lc1 (xs := (is xs).reverse) (fun d => match d with | .int n => .int (-n) | d => d) (by rw [List.length_reverse, is_map_len]; exact le_line (by omega)) (fun x K hx hK => ?_) ?_
    · obtain ⟨m, _, rfl⟩ := List.mem_map.mp (List.mem_reverse.mp hx)
      exact hK
    have em : (is xs).reverse.map (fun d => match d with | .int n => D.int (-n) | d => d) = is (xs.reverse.map (- ·)) := by rw [er]; simp [is]
    have hz : (is xs).length + ((is xs).reverse.map (fun d => match d with | .int n => D.int (-n) | d => d)).length ≤ sizeLine := by rw [em, is_map_len, is_map_len, List.length_map, List.length_reverse]; exact le_line (by omega)
    refine ⟨hz, trivial, ?_⟩
    show Q0 true (.lst (is xs ++ _)) _
    rw [em, ← is_app]
    refine hQ _ k3 r3 (okR_app hok hok.rev.neg) (by rw [List.length_append, List.length_map, List.length_reverse]; omega) (fun x hx => ?_) (by omega) (by omega) h6
    rcases List.mem_append.mp hx with z | z
    · exact hb7 x z
    · obtain ⟨y, hy, rfl⟩ := List.mem_map.mp z
      have := hb7 y (List.mem_reverse.mp hy)
      omega
  · have ec : cutG (is xs) none (some (-1)) = is xs.dropLast := by rw [cut_init, is, is, List.map_dropLast]
    have ld : xs.dropLast.length = xs.length - 1 := List.length_dropLast
    have c1 : (cutG (is xs) none (some (-1))).length + [D.int 7].length ≤ sizeLine := by rw [ec, is_map_len, ld]; show _ + 1 ≤ _; exact le_line (by omega)
    have c2 : (cutG (is xs) none (some (-1)) ++ [D.int 7]).length + (cutG (is xs) none (some (-1))).reverse.length ≤ sizeLine := by
      rw [ec, List.length_append, List.length_reverse, is_map_len, ld]; show (_ + 1) + _ ≤ _; exact le_line (by omega)
    refine ⟨le_line (by show (1 : Nat) ≤ 1000; omega), c1, c2, trivial, ?_⟩
    show Q0 true (.lst ((cutG (is xs) none (some (-1)) ++ [D.int 7]) ++ (cutG (is xs) none (some (-1))).reverse)) _
    have e7 : (cutG (is xs) none (some (-1)) ++ [D.int 7]) ++ (cutG (is xs) none (some (-1))).reverse = is (xs.dropLast ++ [7] ++ xs.dropLast.reverse) := by
      rw [ec, ← is_rev]; simp [is]
    rw [e7]
    refine hQ _ k3 r3 (okR_mid hok) (by rw [List.length_append, List.length_append, List.length_reverse, ld]; show ((((xs.length - 1) + 1) + (xs.length - 1) : Nat) : Int) ≤ _; omega) (fun x hx => ?_) (by omega) (by omega) h6
    rcases List.mem_append.mp hx with z | z
    · rcases List.mem_append.mp z with z | z
      · exact hb7 x ((List.dropLast_sublist xs).subset z)
      · have : x = 7 := by simpa using z
        rw [this]; decide
    · exact hb7 x ((List.dropLast_sublist xs).subset (List.mem_reverse.mp z))
theorem _law_same_ok (T : Fx K mg) : Cal P w K mg base 4 "_law_same" 2 true φ__law_same := by
  obtain ⟨fd, F⟩ := T.d__law_same
  exact ⟨⟨fd, _, _law_same_at T F, F.bindsN fun _ _ _ _ _ _ us hl => match us, hl with | [_, _], _ => rfl⟩, T.g__law_same, T.k__law_same⟩
def φ__law_is_same : PCt := fun as Q => ∃ ns : List Int, as = [.sh (.lst (is ns))] ∧ ns.length ≤ 100 ∧ Q false (.bl (decide (ns = ns.reverse) || decide (ns = ns.reverse.map (- ·)))) as
theorem _law_is_same_at (T : Fx K mg) {fd : FuncData} (F : FunD K "_law_is_same" "_law_is_same" (defArgs (top 42)) (defBody (top 42)) (defScope (top 42)) [] [] (ga K "_law_is_same") fd) : FnOk P w K mg base CX0 1 (ga K "_law_is_same") fd ["row"] (spOf ⟨K, mg⟩ 1 false φ__law_is_same) := by
  have S : FnScope ["row", "number"] ["row"] (defScope (top 42)) := C8.fnScope_by (by kernel_rfl)
  refine funD_ok (n := 1) F S rfl fun cdv A outer s H E hr => ⟨_, (qss_one (qs_ret (qe_or (qe_cmp (op_eqD hr.units) sim_eq (qv 0) (qe_rev (qv 0)) (nomark _)) (qe_one (qe_cmp (op_eqD hr.units) sim_eq (qv 0) (qe_lc (own := [("number", 1)]) (by rfl) S.nd (qi_seq (qe_rev (qv 0))) (blk_of (by kernel_rfl)) (fun _ _ _ _ _ => (qg_name (i := 1) S.nd (by rfl) (by first | exact Or.inl rfl | exact Or.inr rfl))) (fun _ _ _ _ _ => qts_nil) (fun _ _ _ _ _ => (qe_neg (qv 1)))) (nomark _)))))), fun as Q0 h => ?_⟩
  obtain ⟨ns, rfl, hl, hQ⟩ := h
  have er : (is ns).reverse = is ns.reverse := (is_rev ns).symm
  refine ⟨ok_lst ns, (by rw [er]; exact ok_lst _ : okD (.lst (is ns).reverse) = true), fun e => ?_, fun e => ?_⟩
  · rw [er, eqb_lst] at e
    rw [e] at hQ
    exact ⟨trivial, hQ⟩
  · rw [er, eqb_lst] at e
    rw [e, Bool.false_or] at hQ
    refine lc1 (xs := (is ns).reverse) (fun d => match d with | .int n => .int (-n) | d => d) (by rw [List.length_reverse, is_map_len]; exact le_line (by omega)) (fun x K hx hK => ?_) ?_
    · obtain ⟨m, _, rfl⟩ := List.mem_map.mp (List.mem_reverse.mp hx)
      exact hK
    have em : (is ns).reverse.map (fun d => match d with | .int n => D.int (-n) | d => d) = is (ns.reverse.map (- ·)) := by rw [er]; simp [is]
    refine ⟨ok_lst ns, (by rw [em]; exact ok_lst _ : okD (.lst ((is ns).reverse.map (fun d => match d with | .int n => D.int (-n) | d => d))) = true), trivial, ?_⟩
    rw [em, eqb_lst]
    exact hQ
theorem _law_is_same_ok (T : Fx K mg) : Cal P w K mg base 1 "_law_is_same" 1 false φ__law_is_same := by
  obtain ⟨fd, F⟩ := T.d__law_is_same
  exact ⟨⟨fd, _, _law_is_same_at T F, F.bindsN fun _ _ _ _ _ _ us hl => match us, hl with | [_], _ => rfl⟩, T.g__law_is_same, T.k__law_is_same⟩
def φ_law : PCt := fun as Q => ∃ ns : List Int, as = [.sh (.scr ns)] ∧ ns.length ≤ 63 ∧ Q false (.bl true) as
theorem law_at (T : Fx K mg) {fd : FuncData} (F : FunD K "law" "law" (defArgs (top 43)) (defBody (top 43)) (defScope (top 43)) [] [] (ga K "law") fd) : FnOk P w K mg base CX0 7 (ga K "law") fd ["script"] (spOf ⟨K, mg⟩ 1 false φ_law) := by
  have S : FnScope ["script", "tin", "turn", "length", "one", "other", "whole", "rows", "row", "strip", "first", "last", "both", "number"] ["script"] (defScope (top 43)) := C8.fnScope_by (by kernel_rfl)
  refine funD_ok (n := 13) F S rfl fun cdv A outer s H E hr => ⟨_, (qss_cons (qs_set (i := 1) S.nd (by rfl) (by first | exact Or.inl rfl | exact Or.inr rfl) (qc (_law_tin_ok T) hr (qa_cons (qv 0) (qa_nil))))
      (qss_cons (qs_for PassesOwn.never (by rfl) (qi_range1 (by rfl) T.b_range (qa_cons qe_int (qa_nil))) (qg_name (i := 2) S.nd (by rfl) (by first | exact Or.inl rfl | exact Or.inr rfl)) (qss_cons (qs_set (i := 3) S.nd (by rfl) (by first | exact Or.inl rfl | exact Or.inr rfl) (qc (_law_roll_ok T) hr (qa_cons (qv 1) (qa_cons qe_int (qa_nil)))))
      (qss_cons (qs_set (i := 4) S.nd (by rfl) (by first | exact Or.inl rfl | exact Or.inr rfl) (qe_ifE (qt_cmp (op_eqD hr.units) sim_eq (qc (_law_roll_ok T) hr (qa_cons (qv 1) (qa_cons qe_int (qa_nil)))) qe_int (nomark _)) (qc (_law_same_ok T) hr (qa_cons (qv 1) (qa_cons (qv 3) (qa_nil)))) (qc (_law_strip_ok T) hr (qa_cons (qv 1) (qa_cons (qv 3) (qa_cons qe_int (qa_nil)))))))
      (qss_cons (qs_set (i := 5) S.nd (by rfl) (by first | exact Or.inl rfl | exact Or.inr rfl) (qe_ifE (qt_cmp (op_eqD hr.units) sim_eq (qc (_law_roll_ok T) hr (qa_cons (qv 1) (qa_cons qe_int (qa_nil)))) qe_int (nomark _)) (qc (_law_same_ok T) hr (qa_cons (qv 1) (qa_cons (qc (_law_roll_ok T) hr (qa_cons (qv 1) (qa_cons qe_int (qa_nil)))) (qa_nil)))) (qc (_law_strip_ok T) hr (qa_cons (qv 1) (qa_cons (qc (_law_roll_ok T) hr (qa_cons (qv 1) (qa_cons qe_int (qa_nil)))) (qa_cons qe_int (qa_nil)))))))
      (qss_cons (qs_if (qt_cmp (op_eqD hr.units) sim_eq (qc (_law_roll_ok T) hr (qa_cons (qv 1) (qa_cons qe_int (qa_nil)))) qe_int (nomark _)) (qss_one (qs_setLc (i := 5) (own := [("number", 13)]) (by rfl) S.nd (by rfl) (by rfl) (by rfl) (qi_seq (qv 5)) (blk_of (by kernel_rfl)) (fun _ _ _ _ _ => (qg_name (i := 13) S.nd (by rfl) (by first | exact Or.inl rfl | exact Or.inr rfl))) (fun _ _ _ _ _ => qts_nil) (fun _ _ _ _ _ => (qe_mul (qc (_law_pick_ok T) hr (qa_cons (qv 1) (qa_cons (qe_lst (qa_cons qe_int (qa_cons qe_int (qa_cons (qe_neg qe_int) (qa_cons qe_int (qa_nil)))))) (qa_nil)))) (qv 13))))) qss_nil)
      (qss_cons (qs_set (i := 6) S.nd (by rfl) (by first | exact Or.inl rfl | exact Or.inr rfl) (qc (_law_run_of_ok T) hr (qa_cons (qv 4) (qa_cons (qv 5) (qa_nil)))))
      (qss_cons (qs_set (i := 7) S.nd (by rfl) (by first | exact Or.inl rfl | exact Or.inr rfl) (qe_lst (qa_cons (qv 4) (qa_cons (qv 5) (qa_cons (qv 6) (qa_cons (qe_rev (qv 6)) (qa_cons (qc (_law_plain_ok T) hr (qa_cons (qv 4) (qa_nil))) (qa_cons (qc (_law_plain_ok T) hr (qa_cons (qv 6) (qa_nil))) (qa_cons (qc (_law_run_of_ok T) hr (qa_cons (qv 4) (qa_cons (qe_rev (qv 4)) (qa_nil)))) (qa_nil))))))))))
      (qss_cons (qs_for PassesOwn.never (by rfl) (qi_seq (qv 7)) (qg_name (i := 8) S.nd (by rfl) (by first | exact Or.inl rfl | exact Or.inr rfl)) (qss_cons (qs_set (i := 9) S.nd (by rfl) (by first | exact Or.inl rfl | exact Or.inr rfl) (qmk (Strip___init___ok T) hr (qa_cons (qv 8) (qa_nil))))
      (qss_one (qs_if (QW.qt (qw_or (qt_cmp (op_neD hr.units) sim_ne (qe_callB call_reprB sim_reprB (by rfl) T.b_repr boot_repr (qa_cons (qc (is_plain_ok T) hr (qa_cons (qv 9) (qa_nil))) (qa_nil))) (qe_callB call_reprB sim_reprB (by rfl) T.b_repr boot_repr (qa_cons (qe_and (qe_cmp op_gt sim_B0 (qe_ix (qv 8) (qe_neg qe_int)) qe_int (nomark _)) (qe_one (qe_cmp (op_eqD hr.units) sim_eq (qc (_law_gcd_of_ok T) hr (qa_cons (qv 8) (qa_nil))) qe_int (nomark _)))) (qa_nil))) (nomark _)) (qw_or (qt_cmp (op_neD hr.units) sim_ne (qe_callB call_reprB sim_reprB (by rfl) T.b_repr boot_repr (qa_cons (qck (reads_same_okK T) hr (qv 9)) (qa_nil))) (qe_callB call_reprB sim_reprB (by rfl) T.b_repr boot_repr (qa_cons (qc (_law_is_same_ok T) hr (qa_cons (qv 8) (qa_nil))) (qa_nil))) (nomark _)) (qw_or1 (qt_cmp (op_neD hr.units) sim_ne (qck (is_plain_okK T) hr (qv 9)) (qc (is_plain_ok T) hr (qa_cons (qv 9) (qa_nil))) (nomark _)))))) (qss_one (qs_ret qe_bl)) qss_nil))))
      (qss_cons (qs_par3 (i := 10) (j := 11) (l := 12) (by rfl) S.nd (by rfl) (by rfl) (by rfl) (by decide) (by rfl) (by rfl) (by rfl) (qa_cons (qmk (Strip___init___ok T) hr (qa_cons (qv 4) (qa_nil))) (qa_cons (qmk (Strip___init___ok T) hr (qa_cons (qv 5) (qa_nil))) (qa_cons (qm (pl := _) (Strip_product_ok T) hr (qmk (Strip___init___ok T) hr (qa_cons (qv 4) (qa_nil))) (qa_cons (qmk (Strip___init___ok T) hr (qa_cons (qv 5) (qa_nil))) (qa_nil))) (qa_nil)))) (by rfl))
      (qss_cons (qs_if (QW.qt (qw_or (qt_cmp (op_neD hr.units) sim_ne (fld T.f_numbers (qv 12)) (qe_callTy call_tuple_of sim_tuple (by rfl) T.b_tuple boot_tuple (qa_cons (qv 6) (qa_nil))) (nomark _)) (qw_or (QW.qt (qw_and (qt_val (qc (is_plain_ok T) hr (qa_cons (qv 10) (qa_nil)))) (qw_and (qt_val (qc (is_plain_ok T) hr (qa_cons (qv 11) (qa_nil)))) (qw_and1 (qt_not (qt_val (qc (is_plain_ok T) hr (qa_cons (qv 12) (qa_nil))))))))) (qw_or1 (QW.qt (qw_and (qt_val (qc (is_plain_ok T) hr (qa_cons (qv 12) (qa_nil)))) (qw_and1 (qt_cmp (op_notInS hr.unitsI) sim_in (qc (_law_plain_ok T) hr (qa_cons (qv 4) (qa_nil))) (qe_tup (qa_cons (qv 4) (qa_cons (qe_lc (own := [("number", 13)]) (by rfl) S.nd (qi_seq (qv 4)) (blk_of (by kernel_rfl)) (fun _ _ _ _ _ => (qg_name (i := 13) S.nd (by rfl) (by first | exact Or.inl rfl | exact Or.inr rfl))) (fun _ _ _ _ _ => qts_nil) (fun _ _ _ _ _ => (qe_neg (qv 13)))) (qa_nil)))) (by rfl))))))))) (qss_one (qs_ret qe_bl)) qss_nil)
      (qss_cons (qs_if (QW.qt (qw_or (qt_cmp (op_neD hr.units) sim_ne (qc (_law_run_of_ok T) hr (qa_cons (qc (_law_plain_ok T) hr (qa_cons (qv 4) (qa_nil))) (qa_cons (qc (_law_plain_ok T) hr (qa_cons (qv 5) (qa_nil))) (qa_nil)))) (qc (_law_plain_ok T) hr (qa_cons (qv 6) (qa_nil))) (nomark _)) (qw_or1 (qt_cmp op_notBl sim_notBl (qc (reads_same_ok T) hr (qa_cons (qm (pl := _) (Strip_product_ok T) hr (qv 10) (qa_cons (qm0 (pl := _) (Strip_backward_ok T) hr (qv 10)) (qa_nil))) (qa_nil))) qe_bl (nomark _))))) (qss_one (qs_ret qe_bl)) qss_nil)
      (qss_cons (qs_if (QW.qt (qw_or (QW.qt (qw_and (qt_val (qc (reads_same_ok T) hr (qa_cons (qv 10) (qa_nil)))) (qw_and1 (qt_cmp (op_neD hr.units) sim_ne (qc (reads_same_ok T) hr (qa_cons (qv 11) (qa_nil))) (qc (reads_same_ok T) hr (qa_cons (qv 12) (qa_nil))) (nomark _))))) (qw_or1 (qtn (Strip___eq___ok T) (nf_self (C := Strip___eq___ok T)) hr (qm0 (pl := _) (Strip_backward_ok T) hr (qv 12)) (qm (pl := _) (Strip_product_ok T) hr (qm0 (pl := _) (Strip_backward_ok T) hr (qv 10)) (qa_cons (qm0 (pl := _) (Strip_backward_ok T) hr (qv 11)) (qa_nil))))))) (qss_one (qs_ret qe_bl)) qss_nil)
      (qss_one (qs_if (QW.qt (qw_or (qt_cmp (op_neD hr.units) sim_ne (fld T.f_total (qv 12)) (qe_mul (fld T.f_total (qv 10)) (fld T.f_total (qv 11))) (nomark _)) (qw_or (qt_cmp (op_neD hr.units) sim_ne (fld T.f_length (qv 12)) (qe_add (fld T.f_length (qv 10)) (fld T.f_length (qv 11))) (nomark _)) (qw_or (qt_cmp (op_neD hr.units) sim_ne (qm (pl := _) (Strip_at_ok T) hr (qv 12) (qa_cons (fld T.f_length (qv 12)) (qa_nil))) (qe_mul (qe_ix (qv 4) (qe_neg qe_int)) (qe_ix (qv 5) (qe_neg qe_int))) (nomark _)) (qw_or (qt_cmp (op_neD hr.units) sim_ne (qm (pl := _) (Strip_at_ok T) hr (qv 12) (qa_cons (qe_neg qe_int) (qa_nil))) qe_int (nomark _)) (qw_or1 (qt_cmp (op_neD hr.units) sim_ne (qm (pl := _) (Strip_at_ok T) hr (qv 12) (qa_cons (qe_add (fld T.f_length (qv 12)) qe_int) (qa_nil))) qe_int (nomark _)))))))) (qss_one (qs_ret qe_bl)) qss_nil))))))))))))))
      (qss_one (qs_ret qe_bl)))), fun as Q0 h => ?_⟩
  obtain ⟨ns, rfl, hl, hQ⟩ := h
  refine ⟨rfl, ns, rfl, hl, ?_⟩
  refine ⟨⟨by decide, by decide⟩, ?_⟩
  refine ⟨fun i Γ => ∃ k r : Int, Γ = [.sh (.scr ns), .ow (tinD ns k r), .un, .un, .un, .un, .un, .un, .un, .un, .un, .un, .un, .un] ∧ 0 ≤ k ∧ k ≤ 200 * i ∧ 0 ≤ r, ⟨[.sh (.scr ns), .ow (tinD ns 0 0), .un, .un, .un, .un, .un, .un, .un, .un, .un, .un, .un, .un], Wk.refl _, 0, 0, rfl, by omega, by omega, by omega⟩, fun i t Γ ht hI => ?_, fun Γ hI => ?_⟩
  case refine_2 =>
    obtain ⟨k, r, rfl, _⟩ := hI
    exact ⟨trivial, hQ⟩
  obtain ⟨hi, _⟩ := getE_ints ht
  have hi : i < 5 := hi
  obtain ⟨k, r, rfl, hk0, hk1, hr0⟩ := hI
  try dsimp only
  -- length
  refine seq_mid (fun z : { z : Int × Int × Int // 0 ≤ z.1 ∧ z.1 < 19 ∧ k ≤ z.2.1 ∧ z.2.1 ≤ k + 1 ∧ 0 ≤ z.2.2 } => [.sh (.scr ns), .ow (tinD ns z.1.2.1 z.1.2.2), .sh t, .sh (.int z.1.1), .un, .un, .un, .un, .un, .un, .un, .un, .un, .un]) (fun K hK => ⟨rfl, ns, k, r, 19, rfl, hk0, by omega, hr0, by decide, by decide, hl, fun v k2 r2 v0 v1 a b c => hK ⟨(v, k2, r2), v0, v1, a, b, c⟩⟩) (fun z => ?_)
  obtain ⟨⟨len, k1, r1⟩, hz⟩ := z
  obtain ⟨hl0, hl1, ha1, hb1, hr1⟩ : 0 ≤ len ∧ len < 19 ∧ k ≤ k1 ∧ k1 ≤ k + 1 ∧ 0 ≤ r1 := hz
  -- one
  refine seq_mid (fun z : { z : List Int × Int × Int // (OkR z.1 ∧ z.1.length ≤ 20 ∧ ∀ x ∈ z.1, x.natAbs ≤ 7) ∧ k ≤ z.2.1 ∧ z.2.1 ≤ k + 50 ∧ 0 ≤ z.2.2 } => [.sh (.scr ns), .ow (tinD ns z.1.2.1 z.1.2.2), .sh t, .sh (.int len), .ow (.lst (is z.1.1)), .un, .un, .un, .un, .un, .un, .un, .un, .un]) (fun K hK => ?_) (fun z => ?_)
  · refine ⟨rfl, ns, k1, r1, 2, rfl, by omega, by omega, hr1, by decide, by decide, hl, fun v k2 r2 v0 v1 a b c => ⟨rfl, rfl, fun _ => ?_, fun _ => ?_⟩⟩
    · refine ⟨rfl, ns, k2, r2, len, rfl, by omega, by omega, c, hl0, by omega, hl, fun xs k3 r3 ok le bd a3 b3 c3 => hK ⟨(xs, k3, r3), ⟨ok, ?_, bd⟩, ?_, ?_, c3⟩⟩
      · show xs.length ≤ 20; omega
      · show k ≤ k3; omega
      · show k3 ≤ k + 50; omega
    · refine ⟨rfl, ns, k2, r2, len, 6, rfl, by omega, by omega, c, hl0, by omega, by decide, by decide, hl, fun xs k3 r3 ok le bd a3 b3 c3 => hK ⟨(xs, k3, r3), ⟨ok, ?_, fun x hx => ?_⟩, ?_, ?_, c3⟩⟩
      · show xs.length ≤ 20; omega
      · have := bd x hx; omega
      · show k ≤ k3; omega
      · show k3 ≤ k + 50; omega
  obtain ⟨⟨xs, k2, r2⟩, hz⟩ := z
  obtain ⟨⟨okx, lx, bx⟩, ha2, hb2, hr2⟩ : (OkR xs ∧ xs.length ≤ 20 ∧ ∀ x ∈ xs, x.natAbs ≤ 7) ∧ k ≤ k2 ∧ k2 ≤ k + 50 ∧ 0 ≤ r2 := hz
  -- other
  refine seq_mid (fun z : { z : List Int × Int × Int // (OkR z.1 ∧ z.1.length ≤ 20 ∧ ∀ x ∈ z.1, x.natAbs ≤ 7) ∧ k ≤ z.2.1 ∧ z.2.1 ≤ k + 100 ∧ 0 ≤ z.2.2 } => [.sh (.scr ns), .ow (tinD ns z.1.2.1 z.1.2.2), .sh t, .sh (.int len), .ow (.lst (is xs)), .ow (.lst (is z.1.1)), .un, .un, .un, .un, .un, .un, .un, .un]) (fun K hK => ?_) (fun z => ?_)
  · refine ⟨rfl, ns, k2, r2, 2, rfl, by omega, by omega, hr2, by decide, by decide, hl, fun v k3 r3 v0 v1 a b c => ⟨rfl, rfl, fun _ => ?_, fun _ => ?_⟩⟩
    · refine ⟨rfl, ns, k3, r3, 19, rfl, by omega, by omega, c, by decide, by decide, hl, fun w k4 r4 w0 w1 a4 b4 c4 => ?_⟩
      refine ⟨rfl, ns, k4, r4, w, rfl, by omega, by omega, c4, w0, by omega, hl, fun ys k5 r5 ok le bd a5 b5 c5 => hK ⟨(ys, k5, r5), ⟨ok, ?_, bd⟩, ?_, ?_, c5⟩⟩
      · show ys.length ≤ 20; omega
      · show k ≤ k5; omega
      · show k5 ≤ k + 100; omega
    · refine ⟨rfl, ns, k3, r3, 20, rfl, by omega, by omega, c, by decide, by decide, hl, fun w k4 r4 w0 w1 a4 b4 c4 => ?_⟩
      refine ⟨rfl, ns, k4, r4, w, 6, rfl, by omega, by omega, c4, w0, by omega, by decide, by decide, hl, fun ys k5 r5 ok le bd a5 b5 c5 => hK ⟨(ys, k5, r5), ⟨ok, ?_, fun x hx => ?_⟩, ?_, ?_, c5⟩⟩
      · show ys.length ≤ 20; omega
      · have := bd x hx; omega
      · show k ≤ k5; omega
      · show k5 ≤ k + 100; omega
  obtain ⟨⟨ys, k3, r3⟩, hz⟩ := z
  obtain ⟨⟨oky, ly, by_⟩, ha3, hb3, hr3⟩ : (OkR ys ∧ ys.length ≤ 20 ∧ ∀ x ∈ ys, x.natAbs ≤ 7) ∧ k ≤ k3 ∧ k3 ≤ k + 100 ∧ 0 ≤ r3 := hz
  -- other, some times integers
  refine seq_mid (fun z : { z : List Int × Int × Int // (OkR z.1 ∧ z.1.length ≤ 20 ∧ ∀ x ∈ z.1, x.natAbs ≤ 70) ∧ k ≤ z.2.1 ∧ z.2.1 ≤ k + 150 ∧ 0 ≤ z.2.2 } => [.sh (.scr ns), .ow (tinD ns z.1.2.1 z.1.2.2), .sh t, .sh (.int len), .ow (.lst (is xs)), .ow (.lst (is z.1.1)), .un, .un, .un, .un, .un, .un, .un, .un]) (fun K hK => ?_) (fun z => ?_)
  · refine ⟨rfl, ns, k3, r3, 3, rfl, by omega, by omega, hr3, by decide, by decide, hl, fun v k4 r4 v0 v1 a b c => ⟨rfl, rfl, fun _ => ?_, fun _ => ?_⟩⟩
    · refine ⟨fun i acc Γ => ∃ (zs : List Int) (k5 r5 : Int), acc = is zs ∧ Γ = [.sh (.scr ns), .ow (tinD ns k5 r5), .sh t, .sh (.int len), .ow (.lst (is xs)), .sh (.lst (is ys)), .un, .un, .un, .un, .un, .un, .un, .un] ∧ zs.length = i ∧ (∀ z ∈ zs, z.natAbs ≤ 70) ∧ (∀ j z y : Int, ∀ n : Nat, zs[n]? = some z → ys[n]? = some y → y ≠ 0 → z ≠ 0) ∧ k ≤ k5 ∧ k5 ≤ k4 + i ∧ 0 ≤ r5, ⟨[], k4, r4, rfl, rfl, rfl, (fun x hx => nomatch hx), (fun _ _ _ n hx => by simp at hx), by omega, by omega, c⟩, fun i x acc Γ hx hI => ⟨fun _ => ?_, nofun⟩, fun acc Γ hI => ?_⟩
      · obtain ⟨y, rfl, hy⟩ := get_is hx
        obtain ⟨zs, k5, r5, rfl, rfl, hlen, hb, hnz, a1, a2, a3⟩ := hI
        have hiy := (List.getElem?_eq_some_iff.mp hy).1
        have y7 := by_ y (List.mem_of_getElem? hy)
        have hi20 := Nat.lt_of_lt_of_le hiy ly
        refine ⟨le_line (by show (4 : Nat) ≤ 1000; omega), rfl, ns, [2, 3, -1, 10], k5, r5, rfl, by omega, by omega, a3, by simp, by show (4 : Nat) ≤ 100; omega, hl, fun v k6 r6 hv h3 h4 h5 => ?_⟩
        have hv0 : v ≠ 0 ∧ v.natAbs ≤ 10 := by
          have : v = 2 ∨ v = 3 ∨ v = -1 ∨ v = 10 := by simpa using hv
          omega
        refine ⟨small_mul (by omega), ?_, zs ++ [v * y], k6, r6, by simp [is], rfl, by simp [hlen], fun z hz => ?_, fun j z y' n h1 h2 h3 => ?_, by omega, by omega, h5⟩
        · rw [is_map_len]; show _ < 2 ^ 24; omega
        · rcases List.mem_append.mp hz with q | q
          · exact hb z q
          · have : z = v * y := by simpa using q
            rw [this, Int.natAbs_mul]
            exact Nat.le_trans (Nat.mul_le_mul hv0.2 y7) (by decide)
        · rcases Nat.lt_or_ge n zs.length with q | q
          · rw [List.getElem?_append_left q] at h1
            exact hnz j z y' n h1 h2 h3
          · rw [List.getElem?_append_right q] at h1
            have hn : n = zs.length := by
              have := (List.getElem?_eq_some_iff.mp h1).1
              simp at this; omega
            subst hn
            rw [Nat.sub_self] at h1
            cases h1
            rw [hlen, hy] at h2
            cases h2
            exact Int.mul_ne_zero hv0.1 h3
      · obtain ⟨zs, k5, r5, rfl, rfl, hlen, hb, hnz, a1, a2, a3⟩ := hI
        rw [is_map_len] at hlen a2
        refine hK ⟨(zs, k5, r5), ⟨okR_nz oky hlen (fun n z y h1 h2 h3 => hnz 0 z y n h1 h2 h3), ?_, hb⟩, ?_, ?_, a3⟩
        · show zs.length ≤ 20; rw [hlen]; exact ly
        · exact a1
        · have a2 : k5 ≤ k4 + (ys.length : Int) := a2
          have ly' : (ys.length : Int) ≤ 20 := by exact_mod_cast ly
          show k5 ≤ k + 150; omega
    · refine hK ⟨(ys, k4, r4), ⟨oky, ly, fun x hx => ?_⟩, ?_, ?_, c⟩
      · have := by_ x hx; omega
      · show k ≤ k4; omega
      · show k4 ≤ k + 150; omega
  obtain ⟨⟨zs, k4, r4⟩, hz⟩ := z
  obtain ⟨⟨okz, lz, bz⟩, ha4, hb4, hr4⟩ : (OkR zs ∧ zs.length ≤ 20 ∧ ∀ x ∈ zs, x.natAbs ≤ 70) ∧ k ≤ k4 ∧ k4 ≤ k + 150 ∧ 0 ≤ r4 := hz
  -- whole
  have okc := okR_conv okx okz
  have lc0 := conv_len xs zs
  have bc : ∀ x ∈ conv xs zs, x.natAbs < 20000 := fun x hx => by
    have h1 := conv_bd bx bz okx.ne x hx
    have h2 : xs.length * (7 * 70) ≤ 20 * (7 * 70) := Nat.mul_le_mul lx (Nat.le_refl _)
    omega
  have lx1 : 0 < xs.length := List.length_pos_iff.mpr okx.ne
  have lz1 : 0 < zs.length := List.length_pos_iff.mpr okz.ne
  have lxr : xs.reverse.length = xs.length := List.length_reverse
  have bxr : ∀ x ∈ xs.reverse, x.natAbs ≤ 7 := fun x hx => bx x (List.mem_reverse.mp hx)
  have okr := okR_conv okx okx.rev
  have lr0 := conv_len xs xs.reverse
  have br : ∀ x ∈ conv xs xs.reverse, x.natAbs < 20000 := fun x hx => by
    have h1 := conv_bd bx bxr okx.ne x hx
    have h2 : xs.length * (7 * 7) ≤ 20 * (7 * 7) := Nat.mul_le_mul lx (Nat.le_refl _)
    omega
  refine seq_mid (fun _ : Unit => [.sh (.scr ns), .ow (tinD ns k4 r4), .sh t, .sh (.int len), .sh (.lst (is xs)), .sh (.lst (is zs)), .ow (.lst (is (conv xs zs))), .un, .un, .un, .un, .un, .un, .un]) (fun K hK => ⟨rfl, xs, zs, rfl, okx.ne, okz.ne, by omega, fun x hx => by have := bx x hx; omega, hK ()⟩) (fun _ => ?_)
  -- rows
  refine seq_mid (fun _ : Unit => [.sh (.scr ns), .ow (tinD ns k4 r4), .sh t, .sh (.int len), .sh (.lst (is xs)), .sh (.lst (is zs)), .sh (.lst (is (conv xs zs))), .ow (.lst [.lst (is xs), .lst (is zs), .lst (is (conv xs zs)), .lst (is (conv xs zs).reverse), .lst (is (plainL xs)), .lst (is (plainL (conv xs zs))), .lst (is (conv xs xs.reverse))]), .un, .un, .un, .un, .un, .un]) (fun K hK => ?_) (fun _ => ?_)
  · refine ⟨rfl, xs, rfl, okx, by omega, fun x hx => by have := bx x hx; omega, rfl, conv xs zs, rfl, okc, by omega, bc, rfl, xs, xs.reverse, by rw [is_rev]; rfl, okx.ne, okx.rev.ne, by omega, fun x hx => by have := bx x hx; omega, le_line (by show (7 : Nat) ≤ 1000; omega), ?_⟩
    have e := hK ()
    rw [is_rev (conv xs zs)] at e
    exact e
  -- each row
  have okxS := okx.s (show xs.length ≤ 41 by omega)
  have okzS := okz.s (show zs.length ≤ 41 by omega)
  have okcS := okc.s (show (conv xs zs).length ≤ 41 by omega)
  have hrow : ∀ (n : Nat) (x : D), [D.lst (is xs), .lst (is zs), .lst (is (conv xs zs)), .lst (is (conv xs zs).reverse), .lst (is (plainL xs)), .lst (is (plainL (conv xs zs))), .lst (is (conv xs xs.reverse))][n]? = some x → ∃ ρ : List Int, x = .lst (is ρ) ∧ OkS ρ ∧ ∀ n ∈ ρ, n.natAbs < 20000 := fun n x hx => by
    have hm := List.mem_of_getElem? hx
    simp only [List.mem_cons, List.not_mem_nil, or_false] at hm
    rcases hm with rfl | rfl | rfl | rfl | rfl | rfl | rfl
    · exact ⟨xs, rfl, okxS, fun x hx => by have := bx x hx; omega⟩
    · exact ⟨zs, rfl, okzS, fun x hx => by have := bz x hx; omega⟩
    · exact ⟨_, rfl, okcS, bc⟩
    · exact ⟨_, rfl, ok_rev okcS, fun x hx => bc x (List.mem_reverse.mp hx)⟩
    · refine ⟨_, rfl, (okR_plain okx).s (by rw [plain_len]; omega), fun x hx => ?_⟩
      have := plain_bd bx x hx; omega
    · refine ⟨_, rfl, (okR_plain okc).s (by rw [plain_len]; omega), fun x hx => ?_⟩
      have := plain_bd (B := 19999) (fun x hx => by have := bc x hx; omega) x hx; omega
    · exact ⟨_, rfl, okr.s (by omega), br⟩
  generalize [D.lst (is xs), .lst (is zs), .lst (is (conv xs zs)), .lst (is (conv xs zs).reverse), .lst (is (plainL xs)), .lst (is (plainL (conv xs zs))), .lst (is (conv xs xs.reverse))] = RR at hrow ⊢
  try dsimp only
  refine seq_mid (fun _ : Unit => [.sh (.scr ns), .ow (tinD ns k4 r4), .sh t, .sh (.int len), .sh (.lst (is xs)), .sh (.lst (is zs)), .sh (.lst (is (conv xs zs))), .sh (.lst RR), .un, .un, .un, .un, .un, .un]) (fun K hK => ?_) (fun _ => ?_)
  · refine for_eq (fun _ => [.sh (.scr ns), .ow (tinD ns k4 r4), .sh t, .sh (.int len), .sh (.lst (is xs)), .sh (.lst (is zs)), .sh (.lst (is (conv xs zs))), .sh (.lst RR), .un, .un, .un, .un, .un, .un]) (Wk.refl _) (fun i x hx => ?_) (hK ())
    obtain ⟨ρ, rfl, okρ, bρ⟩ := hrow i x hx
    refine seq_mid (fun _ : Unit => [.sh (.scr ns), .ow (tinD ns k4 r4), .sh t, .sh (.int len), .sh (.lst (is xs)), .sh (.lst (is zs)), .sh (.lst (is (conv xs zs))), .sh (.lst RR), .sh (.lst (is ρ)), .ow (strD ρ), .un, .un, .un, .un]) (fun K hK => ⟨rfl, ρ, _, .inl rfl, rfl, okρ, hK ()⟩) (fun _ => ?_)
    try dsimp only
    have hL := okρ.r.last
    have hlen := okρ.len
    refine if_false [.sh (.scr ns), .ow (tinD ns k4 r4), .sh t, .sh (.int len), .sh (.lst (is xs)), .sh (.lst (is zs)), .sh (.lst (is (conv xs zs))), .sh (.lst RR), .sh (.lst (is ρ)), .sh (strD ρ), .un, .un, .un, .un] (fun K hK => ?_) (upq ⟨.inr rfl, .inr rfl, .inr rfl, .inr rfl, .inr rfl, .inr rfl, .inr rfl, .inr rfl, .inl rfl, .inl rfl, .inl rfl, .inl rfl, .inl rfl, .inl rfl, trivial⟩)
    refine or_false' [.sh (.scr ns), .ow (tinD ns k4 r4), .sh t, .sh (.int len), .sh (.lst (is xs)), .sh (.lst (is zs)), .sh (.lst (is (conv xs zs))), .sh (.lst RR), .sh (.lst (is ρ)), .sh (strD ρ), .un, .un, .un, .un] (fun K hK => ?_) ?_
    · refine ⟨rfl, ρ, rfl, okρ, .int (ρ.getLastD 0), atI_lastq hL.2.2, fun h => ⟨rfl, ρ, rfl, bρ, rfl, rfl, ok_repr _, ok_repr _, ?_⟩, fun h => ⟨ok_repr _, ok_repr _, ?_⟩⟩
      · have h : decide (0 < ρ.getLastD 0) = true := h
        have e : eqb (.str (if (decide (0 < ρ.getLastD 0) && decide (gcdL ρ = 1)) then "True" else "False")) (.str (if eqb (.int (gcdL ρ : Nat)) (.int 1) then "True" else "False")) = true := by
          rw [eqb_repr, eqb_int, h, Bool.true_and]
          by_cases g : gcdL ρ = 1 <;> simp [g] <;> omega
        show K (!eqb (.str (if (decide (0 < ρ.getLastD 0) && decide (gcdL ρ = 1)) then "True" else "False")) (.str (if eqb (.int (gcdL ρ : Nat)) (.int 1) then "True" else "False"))) _
        rw [e]; exact hK
      · have h : decide (0 < ρ.getLastD 0) = false := h
        have e : eqb (.str (if (decide (0 < ρ.getLastD 0) && decide (gcdL ρ = 1)) then "True" else "False")) (.str (if false = true then "True" else "False")) = true := by
          rw [eqb_repr, h]; simp
        show K (!eqb (.str (if (decide (0 < ρ.getLastD 0) && decide (gcdL ρ = 1)) then "True" else "False")) (.str (if false = true then "True" else "False"))) _
        rw [e]; exact hK
    refine or_false' [.sh (.scr ns), .ow (tinD ns k4 r4), .sh t, .sh (.int len), .sh (.lst (is xs)), .sh (.lst (is zs)), .sh (.lst (is (conv xs zs))), .sh (.lst RR), .sh (.lst (is ρ)), .sh (strD ρ), .un, .un, .un, .un] (fun K hK => ?_) ?_
    · refine ⟨ρ, rfl, hlen, rfl, ρ, rfl, by omega, ok_repr _, ok_repr _, ?_⟩
      have e : ∀ b : Bool, eqb (.str (if b then "True" else "False")) (.str (if b then "True" else "False")) = true := fun b => by rw [eqb_repr]; simp
      show K (!eqb (.str (if (decide (ρ = ρ.reverse) || decide (ρ = ρ.reverse.map (- ·))) then "True" else "False")) _) _
      rw [e]; exact hK
    · refine ⟨ρ, rfl, okρ, rfl, ρ, rfl, okρ, rfl, rfl, ?_⟩
      have e : ∀ b : Bool, eqb (.bl b) (.bl b) = true := fun b => by rw [eqb_bl]; simp
      show K (!eqb (.bl (decide (0 < ρ.getLastD 0) && decide (gcdL ρ = 1))) (.bl _)) _
      rw [e]; exact hK
  -- the strips
  refine seq_mid (fun _ : Unit => [.sh (.scr ns), .ow (tinD ns k4 r4), .sh t, .sh (.int len), .sh (.lst (is xs)), .sh (.lst (is zs)), .sh (.lst (is (conv xs zs))), .sh (.lst RR), .un, .un, .sh (strD xs), .sh (strD zs), .sh (strD (conv xs zs)), .un]) (fun K hK => ?_) (fun _ => ?_)
  · refine ⟨rfl, xs, _, .inl rfl, rfl, okxS, rfl, zs, _, .inl rfl, rfl, okzS, rfl, xs, _, .inl rfl, rfl, okxS, rfl, rfl, zs, _, .inl rfl, rfl, okzS, rfl, xs, zs, rfl, okxS, okzS, by omega, fun x hx => by have := bx x hx; omega, hK ()⟩
  have plx := okx.last
  have plz := okz.last
  have plc := okc.last
  have hlast := last_conv okx.ne okz.ne
  have hg := gauss okx okz
  have eb : ∀ b : Bool, eqb (.bl b) (.bl b) = true := fun b => by rw [eqb_bl]; simp
  -- first test
  refine seq_mid (fun _ : Unit => [.sh (.scr ns), .ow (tinD ns k4 r4), .sh t, .sh (.int len), .sh (.lst (is xs)), .sh (.lst (is zs)), .sh (.lst (is (conv xs zs))), .sh (.lst RR), .un, .un, .sh (strD xs), .sh (strD zs), .sh (strD (conv xs zs)), .un]) (fun K hK => if_false [.sh (.scr ns), .ow (tinD ns k4 r4), .sh t, .sh (.int len), .sh (.lst (is xs)), .sh (.lst (is zs)), .sh (.lst (is (conv xs zs))), .sh (.lst RR), .un, .un, .sh (strD xs), .sh (strD zs), .sh (strD (conv xs zs)), .un] (fun K hK => ?_) (hK ())) (fun _ => ?_)
  · refine or_false' [.sh (.scr ns), .ow (tinD ns k4 r4), .sh t, .sh (.int len), .sh (.lst (is xs)), .sh (.lst (is zs)), .sh (.lst (is (conv xs zs))), .sh (.lst RR), .un, .un, .sh (strD xs), .sh (strD zs), .sh (strD (conv xs zs)), .un] (fun K hK => ?_) ?_
    · refine ⟨ok_tup _, ok_tup _, ?_⟩
      have e : eqb (.tup (is (conv xs zs))) (.tup (is (conv xs zs))) = true := by rw [eqb_tup]; simp
      show K (!eqb (.tup (is (conv xs zs))) (.tup (is (conv xs zs)))) _
      rw [e]; exact hK
    refine or_false' [.sh (.scr ns), .ow (tinD ns k4 r4), .sh t, .sh (.int len), .sh (.lst (is xs)), .sh (.lst (is zs)), .sh (.lst (is (conv xs zs))), .sh (.lst RR), .un, .un, .sh (strD xs), .sh (strD zs), .sh (strD (conv xs zs)), .un] (fun K hK => ?_) ?_
    · refine ⟨rfl, xs, rfl, okxS, fun h1 => ⟨rfl, zs, rfl, okzS, fun h2 => ⟨rfl, conv xs zs, rfl, okcS, ?_⟩, fun _ => hK⟩, fun _ => hK⟩
      rw [Bool.and_eq_true, decide_eq_true_eq, decide_eq_true_eq] at h1 h2
      have e : (decide (0 < (conv xs zs).getLastD 0) && decide (gcdL (conv xs zs) = 1)) = true := by
        rw [Bool.and_eq_true, decide_eq_true_eq, decide_eq_true_eq, hlast, hg, h1.2, h2.2]
        exact ⟨Int.mul_pos h1.1 h2.1, rfl⟩
      show K (!(decide (0 < (conv xs zs).getLastD 0) && decide (gcdL (conv xs zs) = 1))) _
      rw [e]; exact hK
    · refine ⟨rfl, conv xs zs, rfl, okcS, fun h1 => ?_, fun _ => hK⟩
      rw [Bool.and_eq_true, decide_eq_true_eq, decide_eq_true_eq, hg] at h1
      have gx : gcdL xs = 1 := Nat.dvd_one.mp ⟨gcdL zs, h1.2.symm⟩
      refine ⟨rfl, xs, rfl, okx, by omega, fun x hx => by have := bx x hx; omega, ?_⟩
      refine lc1 (fun d => match d with | .int n => .int (-n) | d => d) (by rw [is_map_len]; exact le_line (by omega)) (fun x K hx hK => ?_) ?_
      · obtain ⟨m, _, rfl⟩ := List.mem_map.mp hx
        exact hK
      have em : (is xs).map (fun d => match d with | .int n => D.int (-n) | d => d) = is (xs.map (- ·)) := by simp [is]
      rw [em]
      refine ⟨le_line (by show (2 : Nat) ≤ 1000; omega), ok_lst _, ok_two _ _, ?_⟩
      have e : [D.lst (is xs), D.lst (is (xs.map (- ·)))].any (fun z => eqb z (.lst (is (plainL xs)))) = true := by
        show (eqb (.lst (is xs)) (.lst (is (plainL xs))) || (eqb (.lst (is (xs.map (- ·)))) (.lst (is (plainL xs))) || false)) = true
        rw [eqb_lst, eqb_lst]
        rcases plain_one gx with q | q <;> rw [q] <;> simp
      show K (!([D.lst (is xs), D.lst (is (xs.map (- ·)))].any (fun z => eqb z (.lst (is (plainL xs)))))) _
      rw [e]; exact hK
  -- second test
  have bxp : ∀ x ∈ plainL xs, x.natAbs ≤ 7 := plain_bd bx
  have okpx := okR_plain okx
  have okpz := okR_plain okz
  have lpx := plain_len xs
  have lpz := plain_len zs
  refine seq_mid (fun _ : Unit => [.sh (.scr ns), .ow (tinD ns k4 r4), .sh t, .sh (.int len), .sh (.lst (is xs)), .sh (.lst (is zs)), .sh (.lst (is (conv xs zs))), .sh (.lst RR), .un, .un, .sh (strD xs), .sh (strD zs), .sh (strD (conv xs zs)), .un]) (fun K hK => if_false [.sh (.scr ns), .ow (tinD ns k4 r4), .sh t, .sh (.int len), .sh (.lst (is xs)), .sh (.lst (is zs)), .sh (.lst (is (conv xs zs))), .sh (.lst RR), .un, .un, .sh (strD xs), .sh (strD zs), .sh (strD (conv xs zs)), .un] (fun K hK => ?_) (hK ())) (fun _ => ?_)
  · refine or_false' [.sh (.scr ns), .ow (tinD ns k4 r4), .sh t, .sh (.int len), .sh (.lst (is xs)), .sh (.lst (is zs)), .sh (.lst (is (conv xs zs))), .sh (.lst RR), .un, .un, .sh (strD xs), .sh (strD zs), .sh (strD (conv xs zs)), .un] (fun K hK => ?_) ?_
    · refine ⟨rfl, xs, rfl, okx, by omega, fun x hx => by have := bx x hx; omega, rfl, zs, rfl, okz, by omega, fun x hx => by have := bz x hx; omega, rfl, plainL xs, plainL zs, rfl, okpx.ne, okpz.ne, by omega, fun x hx => by have := bxp x hx; omega, rfl, conv xs zs, rfl, okc, by omega, bc, ok_lst _, ok_lst _, ?_⟩
      have e : eqb (.lst (is (conv (plainL xs) (plainL zs)))) (.lst (is (plainL (conv xs zs)))) = true := by rw [eqb_lst, conv_plain okx okz]; simp
      show K (!eqb (.lst (is (conv (plainL xs) (plainL zs)))) (.lst (is (plainL (conv xs zs))))) _
      rw [e]; exact hK
    · refine ⟨rfl, rfl, rfl, xs, rfl, okxS, rfl, xs, xs.reverse, rfl, okxS, ok_rev okxS, by omega, fun x hx => by have := bx x hx; omega, rfl, conv xs xs.reverse, rfl, by omega, ?_⟩
      have e : (decide (conv xs xs.reverse = (conv xs xs.reverse).reverse) || decide (conv xs xs.reverse = (conv xs xs.reverse).reverse.map (- ·))) = true := by
        have : (conv xs xs.reverse).reverse = conv xs xs.reverse := by rw [conv_rev _ _ okx.ne okx.rev.ne, List.reverse_reverse, conv_comm' okx.rev.ne okx.ne]
        rw [this]; simp
      show K (!decide ((decide (conv xs xs.reverse = (conv xs xs.reverse).reverse) || decide (conv xs xs.reverse = (conv xs xs.reverse).reverse.map (- ·))) = true)) _
      rw [e]; exact hK
  -- third test
  refine seq_mid (fun _ : Unit => [.sh (.scr ns), .ow (tinD ns k4 r4), .sh t, .sh (.int len), .sh (.lst (is xs)), .sh (.lst (is zs)), .sh (.lst (is (conv xs zs))), .sh (.lst RR), .un, .un, .sh (strD xs), .sh (strD zs), .sh (strD (conv xs zs)), .un]) (fun K hK => if_false [.sh (.scr ns), .ow (tinD ns k4 r4), .sh t, .sh (.int len), .sh (.lst (is xs)), .sh (.lst (is zs)), .sh (.lst (is (conv xs zs))), .sh (.lst RR), .un, .un, .sh (strD xs), .sh (strD zs), .sh (strD (conv xs zs)), .un] (fun K hK => ?_) (hK ())) (fun _ => ?_)
  · refine or_false' [.sh (.scr ns), .ow (tinD ns k4 r4), .sh t, .sh (.int len), .sh (.lst (is xs)), .sh (.lst (is zs)), .sh (.lst (is (conv xs zs))), .sh (.lst RR), .un, .un, .sh (strD xs), .sh (strD zs), .sh (strD (conv xs zs)), .un] (fun K hK => ?_) ?_
    · refine ⟨rfl, xs, rfl, by omega, fun h => ⟨rfl, zs, rfl, by omega, rfl, conv xs zs, rfl, by omega, rfl, rfl, ?_⟩, fun _ => hK⟩
      have hs : sameB (conv xs zs) = sameB zs := same_conv okx okz h
      have e : eqb (.bl (sameB zs)) (.bl (sameB (conv xs zs))) = true := by rw [hs]; exact eb _
      show K (!eqb (.bl (sameB zs)) (.bl (sameB (conv xs zs)))) _
      rw [e]; exact hK
    · refine ⟨rfl, rfl, conv xs zs, rfl, okcS, rfl, rfl, xs, rfl, okxS, rfl, rfl, rfl, zs, rfl, okzS, rfl, xs.reverse, zs.reverse, rfl, ok_rev okxS, ok_rev okzS, by rw [List.length_reverse, List.length_reverse]; omega, fun x hx => by have := bxr x hx; omega, rfl, rfl, (conv xs zs).reverse, conv xs.reverse zs.reverse, rfl, ?_⟩
      have e : decide ((conv xs zs).reverse = conv xs.reverse zs.reverse) = true := by rw [conv_rev _ _ okx.ne okz.ne]; simp
      show K (decide ((conv xs zs).reverse = conv xs.reverse zs.reverse) != true) _
      rw [e]; exact hK
  -- fourth test
  have sb := sum_bd bx
  have s7 : xs.length * 7 ≤ 20 * 7 := Nat.mul_le_mul lx (Nat.le_refl _)
  have b7 := bx _ plx.1
  refine if_false [.sh (.scr ns), .ow (tinD ns k4 r4), .sh t, .sh (.int len), .sh (.lst (is xs)), .sh (.lst (is zs)), .sh (.lst (is (conv xs zs))), .sh (.lst RR), .un, .un, .sh (strD xs), .sh (strD zs), .sh (strD (conv xs zs)), .un] (fun K hK => ?_) ⟨[.sh (.scr ns), .ow (tinD ns k4 r4), .un, .un, .un, .un, .un, .un, .un, .un, .un, .un, .un, .un], ⟨.inr rfl, .inr rfl, .inl rfl, .inl rfl, .inl rfl, .inl rfl, .inl rfl, .inl rfl, .inl rfl, .inl rfl, .inl rfl, .inl rfl, .inl rfl, .inl rfl, trivial⟩, k4, r4, rfl, by omega, by omega, hr4⟩
  refine or_false' [.sh (.scr ns), .ow (tinD ns k4 r4), .sh t, .sh (.int len), .sh (.lst (is xs)), .sh (.lst (is zs)), .sh (.lst (is (conv xs zs))), .sh (.lst RR), .un, .un, .sh (strD xs), .sh (strD zs), .sh (strD (conv xs zs)), .un] (fun K hK => ?_) ?_
  · refine ⟨small_mul (by omega), rfl, rfl, ?_⟩
    have e : eqb (.int (conv xs zs).sum) (.int (xs.sum * zs.sum)) = true := by rw [eqb_int, sum_conv _ _ okx.ne okz.ne]; simp
    show K (!eqb (.int (conv xs zs).sum) (.int (xs.sum * zs.sum))) _
    rw [e]; exact hK
  refine or_false' [.sh (.scr ns), .ow (tinD ns k4 r4), .sh t, .sh (.int len), .sh (.lst (is xs)), .sh (.lst (is zs)), .sh (.lst (is (conv xs zs))), .sh (.lst RR), .un, .un, .sh (strD xs), .sh (strD zs), .sh (strD (conv xs zs)), .un] (fun K hK => ?_) ?_
  · refine ⟨rfl, rfl, ?_⟩
    have e : eqb (.int (((conv xs zs).length : Int) - 1)) (.int (((xs.length : Int) - 1) + ((zs.length : Int) - 1))) = true := by rw [eqb_int, decide_eq_true_eq]; omega
    show K (!eqb (.int (((conv xs zs).length : Int) - 1)) (.int (((xs.length : Int) - 1) + ((zs.length : Int) - 1)))) _
    rw [e]; exact hK
  refine or_false' [.sh (.scr ns), .ow (tinD ns k4 r4), .sh t, .sh (.int len), .sh (.lst (is xs)), .sh (.lst (is zs)), .sh (.lst (is (conv xs zs))), .sh (.lst RR), .un, .un, .sh (strD xs), .sh (strD zs), .sh (strD (conv xs zs)), .un] (fun K hK => ?_) ?_
  · refine ⟨rfl, rfl, conv xs zs, _, rfl, .int (xs.getLastD 0), atI_lastq plx.2.2, .int (zs.getLastD 0), atI_lastq plz.2.2, small_mul (by omega), rfl, rfl, ?_⟩
    have e : eqb (.int (if 0 ≤ ((conv xs zs).length : Int) - 1 then (conv xs zs).getD (((conv xs zs).length : Int) - 1).toNat 0 else 0)) (.int (xs.getLastD 0 * zs.getLastD 0)) = true := by
      rw [eqb_int, ← hlast, if_pos (by omega), decide_eq_true_eq, List.getLastD_eq_getLast?, List.getLast?_eq_getElem?, List.getD_eq_getElem?_getD]
      congr 2; omega
    show K (!eqb (.int (if 0 ≤ ((conv xs zs).length : Int) - 1 then (conv xs zs).getD (((conv xs zs).length : Int) - 1).toNat 0 else 0)) (.int (xs.getLastD 0 * zs.getLastD 0))) _
    rw [e]; exact hK
  refine or_false' [.sh (.scr ns), .ow (tinD ns k4 r4), .sh t, .sh (.int len), .sh (.lst (is xs)), .sh (.lst (is zs)), .sh (.lst (is (conv xs zs))), .sh (.lst RR), .un, .un, .sh (strD xs), .sh (strD zs), .sh (strD (conv xs zs)), .un] (fun K hK => ?_) ?_
  · exact ⟨rfl, rfl, conv xs zs, -1, rfl, rfl, rfl, hK⟩
  · refine ⟨rfl, rfl, conv xs zs, _, rfl, rfl, rfl, ?_⟩
    have e : eqb (.int (if 0 ≤ ((conv xs zs).length : Int) - 1 + 1 then (conv xs zs).getD (((conv xs zs).length : Int) - 1 + 1).toNat 0 else 0)) (.int 0) = true := by
      rw [eqb_int, if_pos (by omega), decide_eq_true_eq, List.getD_eq_getElem?_getD, List.getElem?_eq_none (by omega)]; rfl
    show K (!eqb (.int (if 0 ≤ ((conv xs zs).length : Int) - 1 + 1 then (conv xs zs).getD (((conv xs zs).length : Int) - 1 + 1).toNat 0 else 0)) (.int 0)) _
    rw [e]; exact hK
theorem law_ok (T : Fx K mg) : Cal P w K mg base 7 "law" 1 false φ_law := by
  obtain ⟨fd, F⟩ := T.d_law
  exact ⟨⟨fd, _, law_at T F, F.bindsN fun _ _ _ _ _ _ us hl => match us, hl with | [_], _ => rfl⟩, T.g_law, T.k_law⟩
end
end K17

namespace K17
open PySem L2 PL
open He (ga ma)
def dF (x : Str) (i : Nat) : He.DefD := ⟨(x, none), x, x, defArgs (top i), defBody (top i), defScope (top i), [], []⟩
def dM (c m q : Str) (i j : Nat) : He.DefD := ⟨(c, some m), m, q, defArgs (inClass (top i) j), defBody (inClass (top i) j), defScope (inClass (top i) j), [], []⟩
def fn : List He.DefD := [dF "is_integer" 10, dF "is_within" 11, dF "is_listed" 12, dF "are_integers" 13, dF "need_number" 15, dF "measure_of" 16, dF "need_strip" 23, dF "need_length" 24, dF "multiplied" 25, dF "measure_in" 28, dF "is_plain" 29, dF "reads_same" 30, dF "_law_tin" 32, dF "_law_roll" 33, dF "_law_pick" 34, dF "_law_any" 35, dF "_law_gcd" 36, dF "_law_gcd_of" 37, dF "_law_run_of" 38, dF "_law_strip" 39, dF "_law_plain" 40, dF "_law_same" 41, dF "_law_is_same" 42, dF "law" 43, dM "Strip" "__init__" "Strip.__init__" 26 0, dM "Strip" "at" "Strip.at" 26 3, dM "Strip" "backward" "Strip.backward" 26 4, dM "Strip" "product" "Strip.product" 26 6, dM "Strip" "__eq__" "Strip.__eq__" 26 7]
def fa : List He.Fa := (([.glo "is_integer", .keep "is_integer", .glo "is_within", .keep "is_within", .glo "is_listed", .keep "is_listed", .glo "are_integers", .keep "are_integers", .glo "need_number", .keep "need_number", .glo "measure_of", .keep "measure_of", .glo "need_strip", .keep "need_strip", .glo "need_length", .keep "need_length", .glo "multiplied", .keep "multiplied", .glo "measure_in", .keep "measure_in", .glo "is_plain", .keep "is_plain", .glo "reads_same", .keep "reads_same", .glo "_law_tin", .keep "_law_tin", .glo "_law_roll", .keep "_law_roll", .glo "_law_pick", .keep "_law_pick"] : List He.Fa) ++ ([.glo "_law_any", .keep "_law_any", .glo "_law_gcd", .keep "_law_gcd", .glo "_law_gcd_of", .keep "_law_gcd_of", .glo "_law_run_of", .keep "_law_run_of", .glo "_law_strip", .keep "_law_strip", .glo "_law_plain", .keep "_law_plain", .glo "_law_same", .keep "_law_same", .glo "_law_is_same", .keep "_law_is_same", .glo "law", .keep "law", .glo "Strip", .cls "Strip", .mkr "Strip", .meth "Strip" "at", .meth "Strip" "backward", .meth "Strip" "product", .free "isinstance", .free "int", .free "bool", .free "list", .free "tuple", .free "len"] : List He.Fa) ++ ([.free "abs", .free "all", .free "any", .free "sum", .free "range", .free "enumerate", .free "repr", .int "MOST_LENGTH" 40] : List He.Fa) : List He.Fa)
def eqChk (K : PySem.W.Frag) (x : Str) : Bool := decide (PySem.W.findIn K (.ref (ga K x)) "__eq__" = some (some (.ref (ma K (ga K x) "__eq__")))) && (PySem.W.isFn K (.ref (ma K (ga K x) "__eq__")) && (decide (PySem.W.findIn K (.ref (ga K x)) "__ne__" = some (some (.builtin "object.__ne__"))) && decide (PySem.W.mroIn K (ga K x) (.type "object") = some true)))
def exs (K : PySem.W.Frag) : List Bool := [clsChk K 0, eqChk K "Strip", fldChk K [(0, 0)] "numbers", fldChk K [(0, 1)] "length", fldChk K [(0, 2)] "total", fldChk K [(0, 3)] "is_lot", fldChk K [(0, 4)] "marks", isiChk K [.type "int"] { int := true, bl := true } [(0, false)], isiChk K [.type "bool"] { bl := true } [(0, false)], isiChk K [.type "list", .type "tuple"] { lst := true, tup := true } [(0, false)], isiChk K [.ref (ga K "Strip")] {} [(0, true)]]
def ex (K : PySem.W.Frag) : Bool := (exs K).all id
theorem fx_of {w : World} {h : Heap} {K : PySem.W.Frag} {mg : Str → Option Value} (X : K.In h) (G : h.Ns mainGlobals mg) (c : He.SaysX fa fn [] [] ex w h K) : Fx K mg := by
  have d := c.t.d
  have e : ∀ (i : Nat) (b : Bool), (exs K)[i]? = some b → b = true := fun i b hb => List.all_eq_true.mp c.more b (List.mem_of_getElem? hb)
  have k0 := clsX_of (c := 0) X G (e 0 _ rfl)
  have q0 := e 1 _ rfl
  simp only [eqChk, Bool.and_eq_true, decide_eq_true_eq] at q0
  exact {
    d_is_integer := d.def_ 0 (d := dF "is_integer" 10) rfl,
    g_is_integer := He.glo_ok X G (d.fact 0 (f := .glo "is_integer") rfl),
    k_is_integer := He.keep_ok (d.fact 1 (f := .keep "is_integer") rfl),
    d_is_within := d.def_ 1 (d := dF "is_within" 11) rfl,
    g_is_within := He.glo_ok X G (d.fact 2 (f := .glo "is_within") rfl),
    k_is_within := He.keep_ok (d.fact 3 (f := .keep "is_within") rfl),
    d_is_listed := d.def_ 2 (d := dF "is_listed" 12) rfl,
    g_is_listed := He.glo_ok X G (d.fact 4 (f := .glo "is_listed") rfl),
    k_is_listed := He.keep_ok (d.fact 5 (f := .keep "is_listed") rfl),
    d_are_integers := d.def_ 3 (d := dF "are_integers" 13) rfl,
    g_are_integers := He.glo_ok X G (d.fact 6 (f := .glo "are_integers") rfl),
    k_are_integers := He.keep_ok (d.fact 7 (f := .keep "are_integers") rfl),
    d_need_number := d.def_ 4 (d := dF "need_number" 15) rfl,
    g_need_number := He.glo_ok X G (d.fact 8 (f := .glo "need_number") rfl),
    k_need_number := He.keep_ok (d.fact 9 (f := .keep "need_number") rfl),
    d_measure_of := d.def_ 5 (d := dF "measure_of" 16) rfl,
    g_measure_of := He.glo_ok X G (d.fact 10 (f := .glo "measure_of") rfl),
    k_measure_of := He.keep_ok (d.fact 11 (f := .keep "measure_of") rfl),
    d_need_strip := d.def_ 6 (d := dF "need_strip" 23) rfl,
    g_need_strip := He.glo_ok X G (d.fact 12 (f := .glo "need_strip") rfl),
    k_need_strip := He.keep_ok (d.fact 13 (f := .keep "need_strip") rfl),
    d_need_length := d.def_ 7 (d := dF "need_length" 24) rfl,
    g_need_length := He.glo_ok X G (d.fact 14 (f := .glo "need_length") rfl),
    k_need_length := He.keep_ok (d.fact 15 (f := .keep "need_length") rfl),
    d_multiplied := d.def_ 8 (d := dF "multiplied" 25) rfl,
    g_multiplied := He.glo_ok X G (d.fact 16 (f := .glo "multiplied") rfl),
    k_multiplied := He.keep_ok (d.fact 17 (f := .keep "multiplied") rfl),
    d_measure_in := d.def_ 9 (d := dF "measure_in" 28) rfl,
    g_measure_in := He.glo_ok X G (d.fact 18 (f := .glo "measure_in") rfl),
    k_measure_in := He.keep_ok (d.fact 19 (f := .keep "measure_in") rfl),
    d_is_plain := d.def_ 10 (d := dF "is_plain" 29) rfl,
    g_is_plain := He.glo_ok X G (d.fact 20 (f := .glo "is_plain") rfl),
    k_is_plain := He.keep_ok (d.fact 21 (f := .keep "is_plain") rfl),
    d_reads_same := d.def_ 11 (d := dF "reads_same" 30) rfl,
    g_reads_same := He.glo_ok X G (d.fact 22 (f := .glo "reads_same") rfl),
    k_reads_same := He.keep_ok (d.fact 23 (f := .keep "reads_same") rfl),
    d__law_tin := d.def_ 12 (d := dF "_law_tin" 32) rfl,
    g__law_tin := He.glo_ok X G (d.fact 24 (f := .glo "_law_tin") rfl),
    k__law_tin := He.keep_ok (d.fact 25 (f := .keep "_law_tin") rfl),
    d__law_roll := d.def_ 13 (d := dF "_law_roll" 33) rfl,
    g__law_roll := He.glo_ok X G (d.fact 26 (f := .glo "_law_roll") rfl),
    k__law_roll := He.keep_ok (d.fact 27 (f := .keep "_law_roll") rfl),
    d__law_pick := d.def_ 14 (d := dF "_law_pick" 34) rfl,
    g__law_pick := He.glo_ok X G (d.fact 28 (f := .glo "_law_pick") rfl),
    k__law_pick := He.keep_ok (d.fact 29 (f := .keep "_law_pick") rfl),
    d__law_any := d.def_ 15 (d := dF "_law_any" 35) rfl,
    g__law_any := He.glo_ok X G (d.fact 30 (f := .glo "_law_any") rfl),
    k__law_any := He.keep_ok (d.fact 31 (f := .keep "_law_any") rfl),
    d__law_gcd := d.def_ 16 (d := dF "_law_gcd" 36) rfl,
    g__law_gcd := He.glo_ok X G (d.fact 32 (f := .glo "_law_gcd") rfl),
    k__law_gcd := He.keep_ok (d.fact 33 (f := .keep "_law_gcd") rfl),
    d__law_gcd_of := d.def_ 17 (d := dF "_law_gcd_of" 37) rfl,
    g__law_gcd_of := He.glo_ok X G (d.fact 34 (f := .glo "_law_gcd_of") rfl),
    k__law_gcd_of := He.keep_ok (d.fact 35 (f := .keep "_law_gcd_of") rfl),
    d__law_run_of := d.def_ 18 (d := dF "_law_run_of" 38) rfl,
    g__law_run_of := He.glo_ok X G (d.fact 36 (f := .glo "_law_run_of") rfl),
    k__law_run_of := He.keep_ok (d.fact 37 (f := .keep "_law_run_of") rfl),
    d__law_strip := d.def_ 19 (d := dF "_law_strip" 39) rfl,
    g__law_strip := He.glo_ok X G (d.fact 38 (f := .glo "_law_strip") rfl),
    k__law_strip := He.keep_ok (d.fact 39 (f := .keep "_law_strip") rfl),
    d__law_plain := d.def_ 20 (d := dF "_law_plain" 40) rfl,
    g__law_plain := He.glo_ok X G (d.fact 40 (f := .glo "_law_plain") rfl),
    k__law_plain := He.keep_ok (d.fact 41 (f := .keep "_law_plain") rfl),
    d__law_same := d.def_ 21 (d := dF "_law_same" 41) rfl,
    g__law_same := He.glo_ok X G (d.fact 42 (f := .glo "_law_same") rfl),
    k__law_same := He.keep_ok (d.fact 43 (f := .keep "_law_same") rfl),
    d__law_is_same := d.def_ 22 (d := dF "_law_is_same" 42) rfl,
    g__law_is_same := He.glo_ok X G (d.fact 44 (f := .glo "_law_is_same") rfl),
    k__law_is_same := He.keep_ok (d.fact 45 (f := .keep "_law_is_same") rfl),
    d_law := d.def_ 23 (d := dF "law" 43) rfl,
    g_law := He.glo_ok X G (d.fact 46 (f := .glo "law") rfl),
    k_law := He.keep_ok (d.fact 47 (f := .keep "law") rfl),
    d_Strip___init__ := d.def_ 24 (d := dM "Strip" "__init__" "Strip.__init__" 26 0) rfl,
    d_Strip_at := d.def_ 25 (d := dM "Strip" "at" "Strip.at" 26 3) rfl,
    m_Strip_at := He.meth_ok (d.fact 51 (f := .meth "Strip" "at") rfl),
    d_Strip_backward := d.def_ 26 (d := dM "Strip" "backward" "Strip.backward" 26 4) rfl,
    m_Strip_backward := He.meth_ok (d.fact 52 (f := .meth "Strip" "backward") rfl),
    d_Strip_product := d.def_ 27 (d := dM "Strip" "product" "Strip.product" 26 6) rfl,
    m_Strip_product := He.meth_ok (d.fact 53 (f := .meth "Strip" "product") rfl),
    d_Strip___eq__ := d.def_ 28 (d := dM "Strip" "__eq__" "Strip.__eq__" 26 7) rfl,
    g_Strip := He.glo_ok X G (d.fact 48 (f := .glo "Strip") rfl),
    c_Strip := He.cls_ok (d.fact 49 (f := .cls "Strip") rfl),
    k_Strip := He.mkr_ok (d.fact 50 (f := .mkr "Strip") rfl),
    e_Strip := q0,
    b_isinstance := He.free_ok X G (d.fact 54 (f := .free "isinstance") rfl),
    b_int := He.free_ok X G (d.fact 55 (f := .free "int") rfl),
    b_bool := He.free_ok X G (d.fact 56 (f := .free "bool") rfl),
    b_list := He.free_ok X G (d.fact 57 (f := .free "list") rfl),
    b_tuple := He.free_ok X G (d.fact 58 (f := .free "tuple") rfl),
    b_len := He.free_ok X G (d.fact 59 (f := .free "len") rfl),
    b_abs := He.free_ok X G (d.fact 60 (f := .free "abs") rfl),
    b_all := He.free_ok X G (d.fact 61 (f := .free "all") rfl),
    b_any := He.free_ok X G (d.fact 62 (f := .free "any") rfl),
    b_sum := He.free_ok X G (d.fact 63 (f := .free "sum") rfl),
    b_range := He.free_ok X G (d.fact 64 (f := .free "range") rfl),
    b_enumerate := He.free_ok X G (d.fact 65 (f := .free "enumerate") rfl),
    b_repr := He.free_ok X G (d.fact 66 (f := .free "repr") rfl),
    i_MOST_LENGTH := He.int_ok X G (d.fact 67 (f := .int "MOST_LENGTH" 40) rfl),
    f_numbers := flds_of X G (e 2 _ rfl),
    f_length := flds_of X G (e 3 _ rfl),
    f_total := flds_of X G (e 4 _ rfl),
    f_is_lot := flds_of X G (e 5 _ rfl),
    f_marks := flds_of X G (e 6 _ rfl),
    s_int := isi_of (fun q hq => ⟨_, (by have z := List.mem_singleton.mp hq; subst z; exact k0), (by have z := List.mem_singleton.mp hq; subst z; rfl)⟩) (e 7 _ rfl),
    s_bool := isi_of (fun q hq => ⟨_, (by have z := List.mem_singleton.mp hq; subst z; exact k0), (by have z := List.mem_singleton.mp hq; subst z; rfl)⟩) (e 8 _ rfl),
    s_listtuple := isi_of (fun q hq => ⟨_, (by have z := List.mem_singleton.mp hq; subst z; exact k0), (by have z := List.mem_singleton.mp hq; subst z; rfl)⟩) (e 9 _ rfl),
    s_Strip := isi_of (fun q hq => ⟨_, (by have z := List.mem_singleton.mp hq; subst z; exact k0), (by have z := List.mem_singleton.mp hq; subst z; rfl)⟩) (e 10 _ rfl) }
abbrev R : PySem.W.OpenRow := PySem.W.OpenLaw.row PySem.Challenge.rw_spanalike_k17_whole_products_plain_and_t
abbrev hk : PySem.W.Hook := He.hookX 5 fa fn [] [] ex
def ob (s : PySem.W.SharedT) : He.AlX := He.obsX 5 fa fn [] [] ex (HandSHeadRun.getT s)
theorem ob_eq (s : PySem.W.SharedT) : ob s = hk.obs s.abs := He.obsX_eq (HandSHeadRun.getT_eq s)
def loose : List Str := (["_wall", "BeatError", "BadStrip", "BadNumber", "Twice", "TooMany", "BadText", "FIGURES", "is_integer", "is_within", "is_listed", "are_integers", "first_twice", "need_number", "measure_of", "MOST_FIGURES", "number_in", "Scan", "MOST_LENGTH", "need_strip"] : List Str) ++
  (["need_length", "multiplied", "Strip", "measure_in", "is_plain", "reads_same", "_law_tin", "_law_roll", "_law_pick", "_law_any", "_law_gcd", "_law_gcd_of", "_law_run_of", "_law_strip", "_law_plain", "_law_same", "_law_is_same"] : List Str)
theorem run (w : World) : HandSHeadRun.RunEq R (PySem.W.view R.prog [43]) hk ob 4000 loose w := by
  intro os
  kernel_rfl
theorem facts {P : Program} {w w2 : World} {K : PySem.W.Frag} {h : Heap} {mg : Str → Option Value} {f : Addr} (X : K.In h) (G : h.Ns mainGlobals mg) (hfa : mg ("law" : Str) = some (.ref f)) (c : He.SaysX fa fn [] [] ex w2 h K) :
    ∃ fd : FuncData, (∀ (s : Shared) (v : Value), BindsTo s fd ⟨[v], []⟩ [("script", v)]) ∧ ∀ base : Heap, FnOk P w K mg base CX0 7 f fd ["script"] (spOf ⟨K, mg⟩ 1 false φ_law) := by
  have T := fx_of X G c
  obtain ⟨fd, F⟩ := T.d_law
  have e := hfa.symm.trans T.g_law
  cases e
  have b := FunD.bindsA (ps := ["script"]) F fun _ _ _ _ _ _ us hl => match us, hl with | [_], _ => rfl
  exact ⟨fd, fun s v => b s [v] rfl, fun base => law_at T F⟩
theorem start {K : PySem.W.Frag} {mg : Str → Option Value} {H : Hp} {a : Addr} {ns : List Int} (hl : ns.length ≤ 63) (hS : SqL K H a (ns.map V.int)) : spOf ⟨K, mg⟩ 1 false φ_law [.ref a] H (fun v _ => v = .bl true) fun _ _ _ => False := by
  refine ⟨rfl, fun _ => False, [.sh (.scr ns)], fun b d as' => b = false ∧ d = .bl true, EnvR.args (ds := [.scr ns]) (fun b h => h.elim) (.cons (.scr ?rep) .nil), fun s hs => ⟨.scr ns, List.mem_singleton.mp hs⟩, ⟨ns, rfl, hl, rfl, rfl⟩, ?hr⟩
  case rep => exact hS.elim (fun z => .inl ⟨z, fun q => q.elim⟩) .inr
  case hr =>
    intro b d as' q v H' O' p
    obtain ⟨rfl, rfl⟩ := q
    have hh := p.held
    cases hh
    rfl
end K17
open PySem PySem.W PySem.Calls PyProof.Rows
theorem PySem.Challenge.cw_spanalike_k17_whole_products_plain_and_t_holds : PySem.Challenge.rw_spanalike_k17_whole_products_plain_and_t.Holds := by
  w_on; o_law
  refine HandSHeadRun.head_any (r := OpenLaw.row PySem.Challenge.rw_spanalike_k17_whole_products_plain_and_t) (q := view (OpenLaw.row PySem.Challenge.rw_spanalike_k17_whole_products_plain_and_t).prog [43]) (H := K17.hk) (ob := K17.ob) (M := 4000) (loose := K17.loose) (d := HandSHeadRun.topDef (OpenLaw.row PySem.Challenge.rw_spanalike_k17_whole_products_plain_and_t).prog 43) (kwd := []) K17.ob_eq
    (by kernel_rfl) (fun s => by kernel_rfl) K17.run (by kernel_rfl) (by kernel_rfl) (by kernel_rfl) (by rfl) (by first | assumption | decide +kernel) (by decide +kernel) ⟨rfl, rfl, rfl, rfl, rfl, by decide +kernel⟩ ?hw ?hc
  case hw => w_witness2
  case hc =>
    refine L2.walk_ofE (l := PySem.Challenge.rw_spanalike_k17_whole_products_plain_and_t) (n := 63) (k := 7) (x := "script") (CX := L2.CX0) rfl (by decide) (by kernel_rfl) ⟨rfl, by decide, by decide⟩ ?F (fun _ _ _ _ z => z)
    intro w mg fa h Y G hmg0
    obtain ⟨K, KX, c⟩ := Y
    have hmg : mg ("law" : PySem.Str) = some (.ref fa) := by
      have e : (HandSHeadRun.topDef (OpenLaw.row PySem.Challenge.rw_spanalike_k17_whole_products_plain_and_t).prog 43).name = ("law" : PySem.Str) := by kernel_rfl
      rw [← e]
      exact hmg0
    obtain ⟨fd, hb, hF⟩ := K17.facts (P := (PySem.Challenge.rw_spanalike_k17_whole_products_plain_and_t).prog) (w := w) KX G hmg c
    exact ⟨K, fd, PL.spOf ⟨K, mg⟩ 1 false K17.φ_law, KX, hb, fun H a ns hl _ hS => K17.start hl hS, fun base _ _ => hF base⟩

