/- A net: what is on its way. -/
import Derived.Test.YtcdbnbdeinhokaaTy
namespace Go.Proofs.Ytcdbnbdeinhokaa.SL
open Go.RowKit Go.Proofs.Ytcdbnbdeinhokaa
open Go.Proofs.YtcdbnbdeinhokaaW.PrintLast (rtab opsOf)
set_option linter.unusedVariables false
set_option linter.unusedSimpArgs false

/-- A message on its way. -/
structure PV where
  who : Int
  s : List UInt8
  sp : Bool
def u8s (s : List UInt8) : List Value := s.map fun b => .int .u8 b.toNat
/-- A parcel in memory: a and cap are where its bytes lie. -/
structure PC where
  v : PV
  a : Option Addr
  cap : Nat
def pcell (p : PC) : List Value := [.int .i64 p.v.who, .slice p.a p.v.s.length p.cap, .bool p.v.sp]
theorem pcell_len (p : PC) : (pcell p).length = 3 := rfl
def roAll : List PC → HP
  | [] => .pure True
  | p :: l => .sep (ro p.a p.v.s.length 5 1 (u8s p.v.s)) (roAll l)
theorem roAll_pers : ∀ l, (roAll l).Pers
  | [] => HP.pers_pure _
  | p :: l => HP.pers_sep (ro_pers _ _ _ _ _) (roAll_pers l)
theorem roAll_rd {B w : World} {L : List HP} : ∀ {l : List PC} {i : Nat} {p : PC}, l[i]? = some p → St B (roAll l :: L) w → Rd w p.a p.v.s.length 1 (u8s p.v.s)
  | [], i, p, h, _ => by simp at h
  | q :: l, 0, p, h, hS => by simp at h; subst h; exact hS.sep.ro_rd
  | q :: l, i + 1, p, h, hS => roAll_rd (l := l) (by simpa using h) hS.sep.drop
/-- Parcels out of parcels. -/
theorem roAll_sub {B w : World} {L : List HP} {l : List PC} : ∀ {m : List PC}, (∀ p ∈ m, p ∈ l) → St B (roAll l :: L) w → St B (roAll m :: L) w
  | [], _, h => h.drop.addPure trivial
  | q :: m, hm, h => by
    have h1 := h.dup (roAll_pers l)
    have h2 := roAll_sub (m := m) (fun p hp => hm p (List.mem_cons_of_mem _ hp)) h1
    have h3 : St B (roAll l :: roAll m :: L) w := h2.permT [1, 0] rfl
    have key : ∀ {l : List PC} {L : List HP}, q ∈ l → St B (roAll l :: L) w → St B (ro q.a q.v.s.length 5 1 (u8s q.v.s) :: L) w := by
      intro l
      induction l with
      | nil => intro L h; cases h
      | cons x l ih =>
        intro L hq hS
        rcases List.mem_cons.1 hq with rfl | hq
        · exact hS.sep.permT [1, 0] rfl |>.drop
        · exact ih hq hS.sep.drop
    exact (key (hm q (List.mem_cons_self ..)) h3).join
def netI (g : Nat) (a : Option Addr) (cap : Nat) (l : List PC) (gone : Int) : HP := .sep (cel g [.slice a l.length cap, .int .i64 gone] 49) (.sep (own a l.length cap 51 3 (l.flatMap pcell)) (roAll l))
def netP (g : Nat) (V : List PV) (gone : Int) : HP := .ex fun x : Option Addr × Nat × List PC => .sep (.pure (x.2.2.map PC.v = V ∧ V.length ≤ 64)) (netI g x.1 x.2.1 x.2.2 gone)
theorem netP_open {B w : World} {L : List HP} {g : Nat} {V : List PV} {gone : Int} (h : St B (netP g V gone :: L) w) : ∃ a cap l, l.map PC.v = V ∧ V.length ≤ 64 ∧ St B (cel g [.slice a l.length cap, .int .i64 gone] 49 :: own a l.length cap 51 3 (l.flatMap pcell) :: roAll l :: L) w := by
  obtain ⟨x, h1⟩ := h.ex
  obtain ⟨h2, h3⟩ := h1.sep.pure
  exact ⟨x.1, x.2.1, x.2.2, h2.1, h2.2, h3.sep.permT [1, 0] rfl |>.sep.permT [2, 0] rfl⟩
theorem netP_shut {B w : World} {L : List HP} {g : Nat} {a : Option Addr} {cap : Nat} {l : List PC} {V : List PV} {gone : Int} (h1 : l.map PC.v = V) (h2 : V.length ≤ 64) (h : St B (cel g [.slice a l.length cap, .int .i64 gone] 49 :: own a l.length cap 51 3 (l.flatMap pcell) :: roAll l :: L) w) : St B (netP g V gone :: L) w :=
  (St.join (St.addPure ⟨h1, h2⟩ (St.join (St.permT (St.join (h.permT [1, 1] rfl)) [1, 0] rfl)))).give (a, cap, l)
def rcell (p : PV) : List Value := [.int .i64 p.who, str p.s, .bool p.sp]
theorem rcell_len (p : PV) : (rcell p).length = 3 := rfl
def refP (g : Nat) (V : List PV) (gone : Int) : HP := .ex fun x : Option Addr × Nat => .sep (.pure (V.length ≤ 64)) (.sep (cel g [.slice x.1 V.length x.2, .int .i64 gone] 43) (own x.1 V.length x.2 55 3 (V.flatMap rcell)))
theorem refP_open {B w : World} {L : List HP} {g : Nat} {V : List PV} {gone : Int} (h : St B (refP g V gone :: L) w) : ∃ a cap, V.length ≤ 64 ∧ St B (cel g [.slice a V.length cap, .int .i64 gone] 43 :: own a V.length cap 55 3 (V.flatMap rcell) :: L) w := by
  obtain ⟨x, h1⟩ := h.ex
  obtain ⟨h2, h3⟩ := h1.sep.pure
  exact ⟨x.1, x.2, h2, h3.sep⟩
theorem refP_shut {B w : World} {L : List HP} {g : Nat} {a : Option Addr} {cap : Nat} {V : List PV} {gone : Int} (h2 : V.length ≤ 64) (h : St B (cel g [.slice a V.length cap, .int .i64 gone] 43 :: own a V.length cap 55 3 (V.flatMap rcell) :: L) w) : St B (refP g V gone :: L) w :=
  (St.join (St.addPure h2 h.join)).give (a, cap)
/-! What each act does. -/
def sendF (V : List PV) (gone : Int) (to_ : Int) (s : List UInt8) : Bool × List PV × Int :=
  if ¬ to_ = 0 ∧ ¬ to_ = 1 then (false, V, gone) else if V.length = 64 then (false, V, gone + 1) else (true, V ++ [⟨to_, s, false⟩], gone)
def atF (V : List PV) (i : Int) : Int × List UInt8 × Int := if i < 0 then (0, [], 2) else match V[i.toNat]? with
  | some p => (p.who, p.s, 0)
  | none => (0, [], 2)
def takeF (V : List PV) (i : Int) : List PV := if i < 0 then V else match V[i.toNat]?, V.getLast? with
  | some _, some q => (V.set i.toNat q).dropLast
  | _, _ => V
def doubleF (V : List PV) (i : Int) : Int × List PV := if i < 0 then (2, V) else match V[i.toNat]? with
  | some p => if V.length = 64 then (4, V) else (0, V ++ [p])
  | none => (2, V)
def xorAt (s : List UInt8) (k : Nat) (b : UInt8) : List UInt8 := s.set k (s.getD k 0 ^^^ b)
def spoilF (V : List PV) (i at_ : Int) (b : UInt8) : Int × List PV := if i < 0 then (2, V) else match V[i.toNat]? with
  | some p => if at_ < 0 ∨ (p.s.length : Int) ≤ at_ then (2, V) else if b = 0 then (3, V) else if p.sp = true then (13, V) else (0, V.set i.toNat ⟨p.who, xorAt p.s at_.toNat b, true⟩)
  | none => (2, V)
theorem u8x (a b : UInt8) : bits .xor .u8 (a.toNat : Int) (b.toNat : Int) = ((a ^^^ b).toNat : Int) := by
  rw [u8_xor_nat _ _ (UInt8.toNat_lt a) (UInt8.toNat_lt b), UInt8.toNat_xor]
theorem u8_eq0 (b : UInt8) : ((b.toNat : Int) = 0) ↔ b = 0 := by
  constructor
  · intro h; apply UInt8.toNat_inj.1; have : b.toNat = 0 := by omega
    rw [this]; rfl
  · rintro rfl; rfl
theorem get_some {V : List PV} {i : Nat} (h : i < V.length) : ∃ p, V[i]? = some p := ⟨_, List.getElem?_eq_getElem h⟩
theorem pc_get {l : List PC} {V : List PV} (h : l.map PC.v = V) {i : Nat} {p : PC} (hp : l[i]? = some p) : V[i]? = some p.v := by rw [← h, List.getElem?_map, hp]; rfl
theorem map_len {l : List PC} {V : List PV} (h : l.map PC.v = V) : l.length = V.length := by rw [← h, List.length_map]
theorem new_spec {B w : World} {L : List HP} (hS : St B L w) : Does Try.prog 8 [] w (fun v w1 => ∃ g, v = .pointer (some ⟨g, 0, none⟩) ∧ St B (netP g [] 0 :: L) w1) := by
 refine enter (n := 3) Try.func8 rfl rfl [] rfl ?_
 refine WP.seq ?_
 refine WP.region rfl ?_
 refine WO.val (run_assign rfl) rfl rfl rfl ?_
 refine WO.nil ?_
 refine NX.go ?_
 refine WP.seq ?_
 refine WP.region rfl ?_
 refine WO.val (run_build (v := Value.agg #[Value.slice none 0 0, Value.int .i64 0]) rfl (fun w => by kernel_rfl)) rfl rfl rfl ?_
 refine WO.box (l := [Value.slice none 0 0, Value.int .i64 0]) hS rfl rfl rfl (fun g2 w1 lg2 hS1 => ?_)
 clear hS
 refine WO.val (run_assign rfl) rfl rfl rfl ?_
 refine WO.nil ?_
 refine NX.go ?_
 refine WP.ret ?_
 refine NX.done (l := [.tmp 0]) rfl rfl ?_
 refine ⟨_, rfl, netP_shut (a := none) (cap := 0) (l := []) rfl (by simp) ?_⟩
 exact (hS1.own_nil 51 3).addPure trivial |>.permT [2, 1, 0] rfl
theorem len_spec {B w : World} {L : List HP} {g : Nat} {V : List PV} {gone : Int} (hS : St B (netP g V gone :: L) w) : Does Try.prog 11 [Value.pointer (some ⟨g, 0, none⟩)] w (fun v w1 => v = .int .i64 (V.length : Int) ∧ St B (netP g V gone :: L) w1) := by
 obtain ⟨a, cap, l, hv, hlen, hS⟩ := netP_open hS
 have hll := map_len hv
 refine enter (n := 8) Try.func11 rfl rfl [Value.pointer (some ⟨g, 0, none⟩)] rfl ?_
 refine WP.seq ?_
 refine WP.region rfl ?_
 refine WO.val (run_assign rfl) rfl rfl rfl ?_
 refine WO.nil ?_
 refine NX.go ?_
 refine WP.seq ?_
 refine WP.region rfl ?_
 refine WO.val (run_move rfl) rfl rfl rfl ?_
 refine WO.val (run_nilCheck rfl) rfl rfl rfl ?_
 refine WO.val (run_fieldAddr (q := ⟨g, 0, none⟩) (show fieldB Try.prog 49 0 = some 0 from by kernel_rfl) rfl rfl) rfl rfl rfl ?_
 refine WO.val (run_load Ty.ag47 rfl ((hS.cel_at 0 rfl 0).trans rfl)) rfl rfl rfl ?_
 refine WO.val (run_len rfl Try.underlying47 rfl) rfl rfl rfl ?_
 refine WO.val (run_assign rfl) rfl rfl rfl ?_
 refine WO.nil ?_
 refine NX.go ?_
 refine WP.ret ?_
 refine NX.done (l := [.tmp 2]) rfl rfl ?_
 exact ⟨by rw [← hll]; rfl, netP_shut hv hlen hS⟩
theorem gone_spec {B w : World} {L : List HP} {g : Nat} {V : List PV} {gone : Int} (hS : St B (netP g V gone :: L) w) : Does Try.prog 12 [Value.pointer (some ⟨g, 0, none⟩)] w (fun v w1 => v = .int .i64 gone ∧ St B (netP g V gone :: L) w1) := by
 obtain ⟨a, cap, l, hv, hlen, hS⟩ := netP_open hS
 have hll := map_len hv
 refine enter (n := 7) Try.func12 rfl rfl [Value.pointer (some ⟨g, 0, none⟩)] rfl ?_
 refine WP.seq ?_
 refine WP.region rfl ?_
 refine WO.val (run_assign rfl) rfl rfl rfl ?_
 refine WO.nil ?_
 refine NX.go ?_
 refine WP.seq ?_
 refine WP.region rfl ?_
 refine WO.val (run_move rfl) rfl rfl rfl ?_
 refine WO.val (run_nilCheck rfl) rfl rfl rfl ?_
 refine WO.val (run_fieldAddr (q := ⟨g, 1, none⟩) (show fieldB Try.prog 49 1 = some 1 from by kernel_rfl) rfl rfl) rfl rfl rfl ?_
 refine WO.val (run_load Ty.ag3 rfl ((hS.cel_at 0 rfl 1).trans rfl)) rfl rfl rfl ?_
 refine WO.val (run_assign rfl) rfl rfl rfl ?_
 refine WO.nil ?_
 refine NX.go ?_
 refine WP.ret ?_
 refine NX.done (l := [.tmp 2]) rfl rfl ?_
 exact ⟨rfl, netP_shut hv hlen hS⟩

theorem roAll_append {B w : World} {L : List HP} : ∀ {l m : List PC}, St B (roAll l :: roAll m :: L) w → St B (roAll (l ++ m) :: L) w
  | [], m, h => h.drop
  | p :: l, m, h => by
    have h1 := h.sep.permT [1, 1] rfl
    have h2 := roAll_append (l := l) (m := m) h1
    exact (h2.permT [1, 0] rfl).join
theorem net_snoc {B w : World} {L : List HP} {g : Nat} {a a2 : Option Addr} {cap c2 : Nat} {l : List PC} {V : List PV} {gone who : Int} {s : List UInt8} (h1 : l.map PC.v = V) (h2 : V.length < 64)
    (h : St B (ro a2 s.length 5 1 (u8s s) :: cel g [.slice a (l.length + 1) cap, .int .i64 gone] 49 :: own a (l.length + 1) cap 51 3 (l.flatMap pcell ++ [.int .i64 who, .slice a2 s.length c2, .bool false]) :: roAll l :: L) w) : St B (netP g (V ++ [⟨who, s, false⟩]) gone :: L) w := by
  have h3 : St B (roAll [⟨⟨who, s, false⟩, a2, c2⟩] :: cel g [.slice a (l.length + 1) cap, .int .i64 gone] 49 :: own a (l.length + 1) cap 51 3 (l.flatMap pcell ++ [.int .i64 who, .slice a2 s.length c2, .bool false]) :: roAll l :: L) w := by
    have := h.permT [0] rfl
    exact (this.addPure (p := True) trivial |>.permT [1, 0] rfl).join
  have h4 := roAll_append (h3.permT [3, 0] rfl)
  refine netP_shut (a := a) (cap := cap) (l := l ++ [⟨⟨who, s, false⟩, a2, c2⟩]) (by simp [h1]) (by simp; omega) ?_
  have e1 : (l ++ [(⟨⟨who, s, false⟩, a2, c2⟩ : PC)]).length = l.length + 1 := by simp
  have e2 : (l ++ [(⟨⟨who, s, false⟩, a2, c2⟩ : PC)]).flatMap pcell = l.flatMap pcell ++ [.int .i64 who, .slice a2 s.length c2, .bool false] := by rw [flat_snoc]; rfl
  rw [e1, e2]
  exact h4.permT [1, 1, 0] rfl
theorem find_none {B w : World} {L : List HP} {g n cap : Nat} {a : Option Addr} {gone : Int} {cs : List Value} (hn : n ≤ 64) (hS : St B (cel g [.slice a n cap, .int .i64 gone] 49 :: own a n cap 51 3 cs :: L) w) (i : Int) (hi : i < 0 ∨ (n : Int) ≤ i) : Does Try.prog 21 [Value.pointer (some ⟨g, 0, none⟩), Value.int .i64 i] w (fun v w1 => v = .pointer none ∧ St B (cel g [.slice a n cap, .int .i64 gone] 49 :: own a n cap 51 3 cs :: L) w1) := by
 refine enter (n := 22) Try.func21 rfl rfl [Value.pointer (some ⟨g, 0, none⟩), Value.int .i64 i] rfl ?_
 refine WP.seq ?_
 refine WP.region rfl ?_
 refine WO.val (run_assign rfl) rfl rfl rfl ?_
 refine WO.nil ?_
 refine NX.go ?_
 refine WP.seq ?_
 refine WP.seq ?_
 refine WP.region rfl ?_
 refine WO.val (run_move rfl) rfl rfl rfl ?_
 refine WO.val (run_lss rfl rfl) rfl rfl rfl ?_
 refine WO.val (run_move rfl) rfl rfl rfl ?_
 by_cases g7 : i < 0
 ·
  refine WO.off rfl rfl (decide_eq_true g7) rfl ?_
  refine WO.off rfl rfl (decide_eq_true g7) rfl ?_
  refine WO.off rfl rfl (decide_eq_true g7) rfl ?_
  refine WO.off rfl rfl (decide_eq_true g7) rfl ?_
  refine WO.off rfl rfl (decide_eq_true g7) rfl ?_
  refine WO.off rfl rfl (decide_eq_true g7) rfl ?_
  refine WO.off rfl rfl (decide_eq_true g7) rfl ?_
  refine WO.val (run_pickT rfl (decide_eq_true g7) rfl) rfl rfl rfl ?_
  refine WO.nil ?_
  refine NX.go ?_
  refine WP.condT rfl rfl ?_
  refine WP.seq ?_
  refine WP.region rfl ?_
  refine WO.val (run_assign rfl) rfl rfl rfl ?_
  refine WO.nil ?_
  refine NX.go ?_
  refine WP.ret ?_
  refine NX.thenRet ?_
  refine NX.done (l := [.tmp 4]) rfl rfl ?_
  exact ⟨rfl, hS⟩
 ·
  refine WO.on rfl rfl (decide_eq_false g7) ?_
  refine WO.val (run_move rfl) rfl rfl rfl ?_
  refine WO.on rfl rfl (decide_eq_false g7) ?_
  refine WO.val (run_move rfl) rfl rfl rfl ?_
  refine WO.on rfl rfl (decide_eq_false g7) ?_
  refine WO.val (run_nilCheck rfl) rfl rfl rfl ?_
  refine WO.on rfl rfl (decide_eq_false g7) ?_
  refine WO.val (run_fieldAddr (q := ⟨g, 0, none⟩) (show fieldB Try.prog 49 0 = some 0 from by kernel_rfl) rfl rfl) rfl rfl rfl ?_
  refine WO.on rfl rfl (decide_eq_false g7) ?_
  refine WO.val (run_load Ty.ag47 rfl ((hS.cel_at 0 rfl 0).trans rfl)) rfl rfl rfl ?_
  refine WO.on rfl rfl (decide_eq_false g7) ?_
  refine WO.val (run_len rfl Try.underlying47 rfl) rfl rfl rfl ?_
  refine WO.on rfl rfl (decide_eq_false g7) ?_
  refine WO.val (run_geq rfl rfl) rfl rfl rfl ?_
  refine WO.val (run_pickF rfl (decide_eq_false g7) rfl) rfl rfl rfl ?_
  refine WO.nil ?_
  refine NX.go ?_
  refine WP.condP rfl (fun g15 => ?_) (fun g15 => ?_)
  ·
   refine WP.seq ?_
   refine WP.region rfl ?_
   refine WO.val (run_assign rfl) rfl rfl rfl ?_
   refine WO.nil ?_
   refine NX.go ?_
   refine WP.ret ?_
   refine NX.thenRet ?_
   refine NX.done (l := [.tmp 4]) rfl rfl ?_
   exact ⟨rfl, hS⟩
  ·
   exfalso; omega
theorem find_some {B w : World} {L : List HP} {g n cap : Nat} {a : Option Addr} {gone : Int} {cs : List Value} (hn : n ≤ 64) (hS : St B (cel g [.slice a n cap, .int .i64 gone] 49 :: own a n cap 51 3 cs :: L) w) (i : Nat) (hi : i < n) : Does Try.prog 21 [Value.pointer (some ⟨g, 0, none⟩), Value.int .i64 (i : Int)] w (fun v w1 => v = .pointer (some (adr a (i * 3))) ∧ St B (cel g [.slice a n cap, .int .i64 gone] 49 :: own a n cap 51 3 cs :: L) w1) := by
 refine enter (n := 22) Try.func21 rfl rfl [Value.pointer (some ⟨g, 0, none⟩), Value.int .i64 (i : Int)] rfl ?_
 refine WP.seq ?_
 refine WP.region rfl ?_
 refine WO.val (run_assign rfl) rfl rfl rfl ?_
 refine WO.nil ?_
 refine NX.go ?_
 refine WP.seq ?_
 refine WP.seq ?_
 refine WP.region rfl ?_
 refine WO.val (run_move rfl) rfl rfl rfl ?_
 refine WO.val (run_lss rfl rfl) rfl rfl rfl ?_
 refine WO.val (run_move rfl) rfl rfl rfl ?_
 by_cases g7 : (i : Int) < 0
 ·
  exfalso; omega
 ·
  refine WO.on rfl rfl (decide_eq_false g7) ?_
  refine WO.val (run_move rfl) rfl rfl rfl ?_
  refine WO.on rfl rfl (decide_eq_false g7) ?_
  refine WO.val (run_move rfl) rfl rfl rfl ?_
  refine WO.on rfl rfl (decide_eq_false g7) ?_
  refine WO.val (run_nilCheck rfl) rfl rfl rfl ?_
  refine WO.on rfl rfl (decide_eq_false g7) ?_
  refine WO.val (run_fieldAddr (q := ⟨g, 0, none⟩) (show fieldB Try.prog 49 0 = some 0 from by kernel_rfl) rfl rfl) rfl rfl rfl ?_
  refine WO.on rfl rfl (decide_eq_false g7) ?_
  refine WO.val (run_load Ty.ag47 rfl ((hS.cel_at 0 rfl 0).trans rfl)) rfl rfl rfl ?_
  refine WO.on rfl rfl (decide_eq_false g7) ?_
  refine WO.val (run_len rfl Try.underlying47 rfl) rfl rfl rfl ?_
  refine WO.on rfl rfl (decide_eq_false g7) ?_
  refine WO.val (run_geq rfl rfl) rfl rfl rfl ?_
  refine WO.val (run_pickF rfl (decide_eq_false g7) rfl) rfl rfl rfl ?_
  refine WO.nil ?_
  refine NX.go ?_
  refine WP.condP rfl (fun g15 => ?_) (fun g15 => ?_)
  ·
   exfalso; omega
  ·
   refine WP.skip ?_
   refine NX.go ?_
   refine WP.seq ?_
   refine WP.region rfl ?_
   refine WO.val (run_move rfl) rfl rfl rfl ?_
   refine WO.val (run_nilCheck rfl) rfl rfl rfl ?_
   refine WO.val (run_fieldAddr (q := ⟨g, 0, none⟩) (show fieldB Try.prog 49 0 = some 0 from by kernel_rfl) rfl rfl) rfl rfl rfl ?_
   refine WO.val (run_load Ty.ag47 rfl ((hS.cel_at 0 rfl 0).trans rfl)) rfl rfl rfl ?_
   refine WO.val (run_move rfl) rfl rfl rfl ?_
   refine WO.val (run_indexAddr (q := adr a (i * 3)) Try.underlying47 Ty.sz51 rfl rfl (by omega) (by omega) ((hS.own_rd_i 1 rfl).2.1 (by omega)) rfl) rfl rfl rfl ?_
   refine WO.val (run_assign rfl) rfl rfl rfl ?_
   refine WO.nil ?_
   refine NX.go ?_
   refine WP.ret ?_
   refine NX.done (l := [.tmp 4]) rfl rfl ?_
   exact ⟨rfl, hS⟩
theorem at_none {B w : World} {L : List HP} {g : Nat} {V : List PV} {gone : Int} (hS : St B (netP g V gone :: L) w) (i : Int) (hi0 : i < 0 ∨ (V.length : Int) ≤ i) : Does Try.prog 15 [Value.pointer (some ⟨g, 0, none⟩), Value.int .i64 i] w (fun v w1 => v = .tuple #[.int .i64 0, str [], .int .i64 2] ∧ St B (netP g V gone :: L) w1) := by
 obtain ⟨a, cap, l, hv, hlen, hS⟩ := netP_open hS
 have hll := map_len hv
 have hi : i < 0 ∨ (l.length : Int) ≤ i := by omega
 refine enter (n := 22) Try.func15 rfl rfl [Value.pointer (some ⟨g, 0, none⟩), Value.int .i64 i] rfl ?_
 refine WP.seq ?_
 refine WP.region rfl ?_
 refine WO.val (run_assign rfl) rfl rfl rfl ?_
 refine WO.val (run_assign rfl) rfl rfl rfl ?_
 refine WO.val (run_assign rfl) rfl rfl rfl ?_
 refine WO.nil ?_
 refine NX.go ?_
 refine WP.seq ?_
 refine WP.region rfl ?_
 refine WO.val (run_move rfl) rfl rfl rfl ?_
 refine WO.val (run_move rfl) rfl rfl rfl ?_
 refine WO.call rfl rfl Ty.hd21 rfl (find_none (by omega) hS _ hi) (fun v2 w1 pv2 => ?_)
 obtain ⟨rfl, hS1⟩ := pv2
 clear hS
 refine WO.val (run_assign rfl) rfl rfl rfl ?_
 refine WO.nil ?_
 refine NX.go ?_
 refine WP.seq ?_
 refine WP.seq ?_
 refine WP.region rfl ?_
 refine WO.val (run_move rfl) rfl rfl rfl ?_
 refine WO.val (run_eqlNilP Try.underlying52 rfl rfl) rfl rfl rfl ?_
 refine WO.nil ?_
 refine NX.go ?_
 refine WP.condT rfl rfl ?_
 refine WP.seq ?_
 refine WP.region rfl ?_
 refine WO.val (run_assign rfl) rfl rfl rfl ?_
 refine WO.val (run_assign rfl) rfl rfl rfl ?_
 refine WO.val (run_assign rfl) rfl rfl rfl ?_
 refine WO.nil ?_
 refine NX.go ?_
 refine WP.ret ?_
 refine NX.thenRet ?_
 refine NX.done (l := [.tmp 4, .tmp 5, .tmp 6]) rfl rfl ?_
 exact ⟨rfl, netP_shut hv hlen hS1⟩
theorem at_some_t4 : rtab .any (opsOf Try.f15 4) = (true, [([], []), ([0], [0]), ([1], [1]), ([2], [2]), ([], []), ([4], [4]), ([5], [5]), ([6], [6]), ([7], [7]), ([3, 0, 1, 2, 3], [3]), ([8, 9, 0, 1, 2, 3, 4, 5, 6, 7, 8, 9], [8]), ([10, 0, 1, 2, 3, 4, 5, 6, 7, 8, 9, 10], [])]) := by kernel_rfl
theorem at_some {B w : World} {L : List HP} {g : Nat} {V : List PV} {gone : Int} (hS : St B (netP g V gone :: L) w) (i : Nat) (pv : PV) (hpv : V[i]? = some pv) : Does Try.prog 15 [Value.pointer (some ⟨g, 0, none⟩), Value.int .i64 (i : Int)] w (fun v w1 => v = .tuple #[.int .i64 pv.who, str pv.s, .int .i64 0] ∧ St B (netP g V gone :: L) w1) := by
 obtain ⟨a, cap, l, hv, hlen, hS⟩ := netP_open hS
 have hll := map_len hv
 have hil : i < l.length := by rw [hll]; exact (List.getElem?_eq_some_iff.1 hpv).1
 obtain ⟨p, hp⟩ : ∃ p, l[i]? = some p := ⟨_, List.getElem?_eq_getElem hil⟩
 obtain rfl : p.v = pv := Option.some.inj ((pc_get hv hp).symm.trans hpv)
 have hsa : a.isSome = true := by obtain ⟨q, hq, _⟩ := (hS.own_rd_i 1 rfl).2.1 (by omega); rw [hq]; rfl
 refine enter (n := 22) Try.func15 rfl rfl [Value.pointer (some ⟨g, 0, none⟩), Value.int .i64 (i : Int)] rfl ?_
 refine WP.seq ?_
 refine WP.region rfl ?_
 refine WO.val (run_assign rfl) rfl rfl rfl ?_
 refine WO.val (run_assign rfl) rfl rfl rfl ?_
 refine WO.val (run_assign rfl) rfl rfl rfl ?_
 refine WO.nil ?_
 refine NX.go ?_
 refine WP.seq ?_
 refine WP.region rfl ?_
 refine WO.val (run_move rfl) rfl rfl rfl ?_
 refine WO.val (run_move rfl) rfl rfl rfl ?_
 refine WO.call rfl rfl Ty.hd21 rfl (find_some (by omega) hS i (by omega)) (fun v2 w1 pv2 => ?_)
 obtain ⟨rfl, hS1⟩ := pv2
 clear hS
 refine WO.val (run_assign rfl) rfl rfl rfl ?_
 refine WO.nil ?_
 refine NX.go ?_
 refine WP.seq ?_
 refine WP.seq ?_
 refine WP.region rfl ?_
 refine WO.val (run_move rfl) rfl rfl rfl ?_
 refine WO.val (run_eqlNilP Try.underlying52 rfl rfl) rfl rfl rfl ?_
 refine WO.nil ?_
 refine NX.go ?_
 refine WP.condF rfl rfl ?_
 refine WP.skip ?_
 refine NX.go ?_
 refine WP.seq ?_
 refine WD.start (fun w => (∀ j, World.cell? w ⟨g, j, none⟩ = [Value.slice a l.length cap, Value.int .i64 gone][j]?) ∧ Rd w a l.length 3 (l.flatMap pcell) ∧ Rd w p.a p.v.s.length 1 (u8s p.v.s)) [] #[false, false, false, false, false, false, false, false, false, false, false, false] Ty.mo rfl (by kernel_rfl) hS1 (fun _ h => ⟨h.cel_at 0 rfl, h.own_rd_i 1 rfl, roAll_rd hp (h.focus 2 rfl)⟩) (fun w3 hS3 s4 => ?_)
 clear hS1
 refine WD.pure (i := 0) at_some_t4 #[true, false, false, false, false, false, false, false, false, false, false, false] rfl rfl rfl (by kernel_rfl) (PQ.then PQ.body) rfl (fun w => run_move rfl) ?_
 refine WD.pure (i := 1) at_some_t4 #[true, true, false, false, false, false, false, false, false, false, false, false] rfl rfl rfl (by kernel_rfl) (PQ.then PQ.body) rfl (fun w => run_nilCheck rfl) ?_
 refine WD.pure (i := 2) at_some_t4 #[true, true, true, false, false, false, false, false, false, false, false, false] rfl rfl rfl (by kernel_rfl) (PQ.then PQ.body) rfl (fun w => run_fieldAddr (q := (adr a (i * 3 + 0))) (show fieldB Try.prog 51 0 = some 0 from by kernel_rfl) rfl (adr_add _ (by assumption) _ _)) ?_
 refine WD.take (i := 3) at_some_t4 #[true, true, true, true, false, false, false, false, false, false, false, false] s4 rfl rfl rfl (by kernel_rfl) (PQ.then PQ.body) rfl (fun w hs => run_load Ty.ag3 rfl ((hs.2.1).cell ((flat_get pcell_len hp (j := 0) (by decide)).trans rfl))) ?_
 refine WD.pure (i := 4) at_some_t4 #[true, true, true, true, true, false, false, false, false, false, false, false] rfl rfl rfl (by kernel_rfl) (PQ.then PQ.body) rfl (fun w => run_move rfl) ?_
 refine WD.pure (i := 5) at_some_t4 #[true, true, true, true, true, true, false, false, false, false, false, false] rfl rfl rfl (by kernel_rfl) (PQ.then PQ.body) rfl (fun w => run_nilCheck rfl) ?_
 refine WD.pure (i := 6) at_some_t4 #[true, true, true, true, true, true, true, false, false, false, false, false] rfl rfl rfl (by kernel_rfl) (PQ.then PQ.body) rfl (fun w => run_fieldAddr (q := (adr a (i * 3 + 1))) (show fieldB Try.prog 51 1 = some 1 from by kernel_rfl) rfl (adr_add _ (by assumption) _ _)) ?_
 refine WD.take (i := 7) at_some_t4 #[true, true, true, true, true, true, true, true, false, false, false, false] s4 rfl rfl rfl (by kernel_rfl) (PQ.then PQ.body) rfl (fun w hs => run_load Ty.ag28 rfl ((hs.2.1).cell ((flat_get pcell_len hp (j := 1) (by decide)).trans rfl))) ?_
 refine WD.take (i := 8) at_some_t4 #[true, true, true, true, true, true, true, true, true, false, false, false] s4 rfl rfl rfl (by kernel_rfl) (PQ.then PQ.body) rfl (fun w hs => run_bytesToStr Try.underlying28 Try.underlying5 Try.underlying9 rfl hs.2.2) ?_
 refine WD.pure (i := 9) at_some_t4 #[true, true, true, true, true, true, true, true, true, true, false, false] rfl rfl rfl (by kernel_rfl) (PQ.then PQ.body) rfl (fun w => run_assign rfl) ?_
 refine WD.pure (i := 10) at_some_t4 #[true, true, true, true, true, true, true, true, true, true, true, false] rfl rfl rfl (by kernel_rfl) (PQ.then PQ.body) rfl (fun w => run_assign rfl) ?_
 refine WD.pure (i := 11) at_some_t4 #[true, true, true, true, true, true, true, true, true, true, true, true] rfl rfl rfl (by kernel_rfl) (PQ.then PQ.body) rfl (fun w => run_assign rfl) ?_
 refine WD.done at_some_t4 (by kernel_rfl) ?_
 refine NX.go ?_
 refine WP.ret ?_
 refine NX.done (l := [.tmp 4, .tmp 5, .tmp 6]) rfl rfl ?_
 exact ⟨rfl, netP_shut hv hlen hS3⟩
theorem send_spec {B w : World} {L : List HP} {g : Nat} {V : List PV} {gone : Int} (hS : St B (netP g V gone :: L) w) (who : Int) (s : List UInt8) (hg : 0 ≤ gone ∧ gone < 1000000000) : Does Try.prog 9 [Value.pointer (some ⟨g, 0, none⟩), Value.int .i64 who, str s] w (fun v w1 => v = .bool (sendF V gone who s).1 ∧ St B (netP g (sendF V gone who s).2.1 (sendF V gone who s).2.2 :: L) w1) := by
 obtain ⟨a, cap, l, hv, hlen, hS⟩ := netP_open hS
 have hll := map_len hv
 have hbad : (¬ who = 0 ∧ ¬ who = 1) → sendF V gone who s = (false, V, gone) := fun h => by unfold sendF; rw [if_pos h]
 have hfull : ¬ (¬ who = 0 ∧ ¬ who = 1) → V.length = 64 → sendF V gone who s = (false, V, gone + 1) := fun h h2 => by unfold sendF; rw [if_neg h, if_pos h2]
 have hok : ¬ (¬ who = 0 ∧ ¬ who = 1) → ¬ V.length = 64 → sendF V gone who s = (true, V ++ [⟨who, s, false⟩], gone) := fun h h2 => by unfold sendF; rw [if_neg h, if_neg h2]
 refine enter (n := 41) Try.func9 rfl rfl [Value.pointer (some ⟨g, 0, none⟩), Value.int .i64 who, str s] rfl ?_
 refine WP.seq ?_
 refine WP.region rfl ?_
 refine WO.val (run_assign rfl) rfl rfl rfl ?_
 refine WO.nil ?_
 refine NX.go ?_
 refine WP.seq ?_
 refine WP.block ?_
 refine WP.seq ?_
 refine WP.region rfl ?_
 refine WO.val (run_move rfl) rfl rfl rfl ?_
 refine WO.val (run_neq rfl rfl) rfl rfl rfl ?_
 refine WO.val (run_move rfl) rfl rfl rfl ?_
 by_cases g10 : ¬ who = 0
 ·
  refine WO.on rfl rfl (decide_eq_true g10) ?_
  refine WO.val (run_move rfl) rfl rfl rfl ?_
  refine WO.on rfl rfl (decide_eq_true g10) ?_
  refine WO.val (run_neq rfl rfl) rfl rfl rfl ?_
  refine WO.val (run_pickT rfl (decide_eq_true g10) rfl) rfl rfl rfl ?_
  refine WO.val (run_assign rfl) rfl rfl rfl ?_
  refine WO.nil ?_
  refine NX.go ?_
  refine WP.condP rfl (fun g7 => ?_) (fun g7 => ?_)
  ·
   refine WP.seq ?_
   refine WP.region rfl ?_
   refine WO.val (run_assign rfl) rfl rfl rfl ?_
   refine WO.nil ?_
   refine NX.go ?_
   refine WP.ret ?_
   refine NX.blkRet ?_
   refine NX.thenRet ?_
   refine NX.done (l := [.tmp 6]) rfl rfl ?_
   refine ⟨by rw [hbad (by omega)]; rfl, by rw [hbad (by omega)]; exact netP_shut hv hlen hS⟩
  ·
   refine WP.seq ?_
   refine WP.region rfl ?_
   refine WO.val (run_move rfl) rfl rfl rfl ?_
   refine WO.val (run_nilCheck rfl) rfl rfl rfl ?_
   refine WO.val (run_fieldAddr (q := ⟨g, 0, none⟩) (show fieldB Try.prog 49 0 = some 0 from by kernel_rfl) rfl rfl) rfl rfl rfl ?_
   refine WO.val (run_load Ty.ag47 rfl ((hS.cel_at 0 rfl 0).trans rfl)) rfl rfl rfl ?_
   refine WO.val (run_len rfl Try.underlying47 rfl) rfl rfl rfl ?_
   refine WO.val (run_eql rfl rfl) rfl rfl rfl ?_
   refine WO.val (run_assign rfl) rfl rfl rfl ?_
   refine WO.nil ?_
   refine NX.go ?_
   refine WP.condP rfl (fun g14 => ?_) (fun g14 => ?_)
   ·
    refine WP.seq ?_
    refine WP.region rfl ?_
    refine WO.val (run_move rfl) rfl rfl rfl ?_
    refine WO.val (run_nilCheck rfl) rfl rfl rfl ?_
    refine WO.val (run_fieldAddr (q := ⟨g, 1, none⟩) (show fieldB Try.prog 49 1 = some 1 from by kernel_rfl) rfl rfl) rfl rfl rfl ?_
    refine WO.val (run_load Ty.ag3 rfl ((hS.cel_at 0 rfl 1).trans rfl)) rfl rfl rfl ?_
    refine WO.val (run_add rfl rfl (IntWalk.i64_in _ (by omega))) rfl rfl rfl ?_
    refine WO.val (run_nilCheck rfl) rfl rfl rfl ?_
    refine WO.val (run_fieldAddr (q := ⟨g, 1, none⟩) (show fieldB Try.prog 49 1 = some 1 from by kernel_rfl) rfl rfl) rfl rfl rfl ?_
    refine WO.store (l' := [Value.slice a l.length cap, Value.int .i64 (gone + 1)]) 0 hS rfl Ty.sz3 rfl rfl rfl rfl rfl (Nat.le_of_ble_eq_true rfl) rfl (fun w1 (hS1 : St B (cel g [Value.slice a l.length cap, Value.int .i64 (gone + 1)] 49 :: own a l.length cap 51 3 (l.flatMap pcell) :: (roAll l) :: L) w1) => ?_)
    clear hS
    refine WO.nil ?_
    refine NX.go ?_
    refine WP.seq ?_
    refine WP.region rfl ?_
    refine WO.val (run_assign rfl) rfl rfl rfl ?_
    refine WO.nil ?_
    refine NX.go ?_
    refine WP.ret ?_
    refine NX.blkRet ?_
    refine NX.thenRet ?_
    refine NX.done (l := [.tmp 6]) rfl rfl ?_
    refine ⟨by rw [hfull (by omega) (by omega)]; rfl, by rw [hfull (by omega) (by omega)]; exact netP_shut hv hlen hS1⟩
   ·
    refine WP.skip ?_
    refine NX.blk ?_
    refine NX.go ?_
    refine WP.seq ?_
    refine WP.region rfl ?_
    refine WO.val (run_move rfl) rfl rfl rfl ?_
    refine WO.val (run_move rfl) rfl rfl rfl ?_
    refine WO.val (run_nilCheck rfl) rfl rfl rfl ?_
    refine WO.val (run_fieldAddr (q := ⟨g, 0, none⟩) (show fieldB Try.prog 49 0 = some 0 from by kernel_rfl) rfl rfl) rfl rfl rfl ?_
    refine WO.val (run_load Ty.ag47 rfl ((hS.cel_at 0 rfl 0).trans rfl)) rfl rfl rfl ?_
    refine WO.val (run_move rfl) rfl rfl rfl ?_
    refine WO.val (run_move rfl) rfl rfl rfl ?_
    refine WO.strToBytes Try.underlying28 Try.underlying5 Try.underlying9 rfl hS rfl (fun a3 c4 w2 hS2 => ?_)
    clear hS
    refine WO.val (run_build (v := Value.agg #[Value.int .i64 who, Value.slice a3 s.length c4, Value.bool false]) rfl (fun w => by kernel_rfl)) rfl rfl rfl ?_
    refine WO.buildSlice (l := [Value.int .i64 who, Value.slice a3 s.length c4, Value.bool false]) hS2 Try.underlying47 rfl (fun w => by kernel_rfl) rfl (fun g6 w5 lg6 hS5 => ?_)
    clear hS2
    refine WO.append (news := [Value.int .i64 who, Value.slice a3 s.length c4, Value.bool false]) 3 rfl Try.underlying47 Try.underlying47 (fun _ h => by cases h) Ty.sz51 (by decide) Ty.by51 Ty.zr51 rfl rfl rfl rfl hS5 rfl ((hS5.cel_rd 0 rfl (o := 0) (m := 1) (k := 3) rfl (Nat.le_of_ble_eq_true rfl)).src) rfl (by omega) (by omega) (fun a8 c9 w7 hS7 => ?_)
    replace hS7 : St B (cel g6 [Value.int .i64 who, Value.slice a3 s.length c4, Value.bool false] 51 :: own a3 s.length c4 5 1 (s.map fun b => Value.int .u8 b.toNat) :: cel g [Value.slice a l.length cap, Value.int .i64 gone] 49 :: own a8 (l.length + 1) c9 51 3 ((l.flatMap pcell) ++ [Value.int .i64 who, Value.slice a3 s.length c4, Value.bool false]) :: (roAll l) :: L) w7 := hS7
    clear hS5
    refine WO.val (run_nilCheck rfl) rfl rfl rfl ?_
    refine WO.val (run_fieldAddr (q := ⟨g, 0, none⟩) (show fieldB Try.prog 49 0 = some 0 from by kernel_rfl) rfl rfl) rfl rfl rfl ?_
    refine WO.store (l' := [Value.slice a8 (l.length + 1) c9, Value.int .i64 gone]) 2 hS7 rfl Ty.sz47 rfl rfl rfl rfl rfl (Nat.le_of_ble_eq_true rfl) rfl (fun w10 (hS10 : St B (cel g6 [Value.int .i64 who, Value.slice a3 s.length c4, Value.bool false] 51 :: own a3 s.length c4 5 1 (s.map fun b => Value.int .u8 b.toNat) :: cel g [Value.slice a8 (l.length + 1) c9, Value.int .i64 gone] 49 :: own a8 (l.length + 1) c9 51 3 ((l.flatMap pcell) ++ [Value.int .i64 who, Value.slice a3 s.length c4, Value.bool false]) :: (roAll l) :: L) w10) => ?_)
    clear hS7
    refine WO.nil ?_
    refine NX.go ?_
    refine WP.seq ?_
    refine WP.region rfl ?_
    refine WO.val (run_assign rfl) rfl rfl rfl ?_
    refine WO.nil ?_
    refine NX.go ?_
    refine WP.ret ?_
    refine NX.done (l := [.tmp 6]) rfl rfl ?_
    refine ⟨by rw [hok (by omega) (by omega)]; rfl, ?_⟩
    rw [hok (by omega) (by omega)]
    exact net_snoc hv (by omega) (hS10.drop).own_seal
 ·
  refine WO.off rfl rfl (decide_eq_false g10) rfl ?_
  refine WO.off rfl rfl (decide_eq_false g10) rfl ?_
  refine WO.val (run_pickF rfl (decide_eq_false g10) rfl) rfl rfl rfl ?_
  refine WO.val (run_assign rfl) rfl rfl rfl ?_
  refine WO.nil ?_
  refine NX.go ?_
  refine WP.condF rfl rfl ?_
  refine WP.seq ?_
  refine WP.region rfl ?_
  refine WO.val (run_move rfl) rfl rfl rfl ?_
  refine WO.val (run_nilCheck rfl) rfl rfl rfl ?_
  refine WO.val (run_fieldAddr (q := ⟨g, 0, none⟩) (show fieldB Try.prog 49 0 = some 0 from by kernel_rfl) rfl rfl) rfl rfl rfl ?_
  refine WO.val (run_load Ty.ag47 rfl ((hS.cel_at 0 rfl 0).trans rfl)) rfl rfl rfl ?_
  refine WO.val (run_len rfl Try.underlying47 rfl) rfl rfl rfl ?_
  refine WO.val (run_eql rfl rfl) rfl rfl rfl ?_
  refine WO.val (run_assign rfl) rfl rfl rfl ?_
  refine WO.nil ?_
  refine NX.go ?_
  refine WP.condP rfl (fun g14 => ?_) (fun g14 => ?_)
  ·
   refine WP.seq ?_
   refine WP.region rfl ?_
   refine WO.val (run_move rfl) rfl rfl rfl ?_
   refine WO.val (run_nilCheck rfl) rfl rfl rfl ?_
   refine WO.val (run_fieldAddr (q := ⟨g, 1, none⟩) (show fieldB Try.prog 49 1 = some 1 from by kernel_rfl) rfl rfl) rfl rfl rfl ?_
   refine WO.val (run_load Ty.ag3 rfl ((hS.cel_at 0 rfl 1).trans rfl)) rfl rfl rfl ?_
   refine WO.val (run_add rfl rfl (IntWalk.i64_in _ (by omega))) rfl rfl rfl ?_
   refine WO.val (run_nilCheck rfl) rfl rfl rfl ?_
   refine WO.val (run_fieldAddr (q := ⟨g, 1, none⟩) (show fieldB Try.prog 49 1 = some 1 from by kernel_rfl) rfl rfl) rfl rfl rfl ?_
   refine WO.store (l' := [Value.slice a l.length cap, Value.int .i64 (gone + 1)]) 0 hS rfl Ty.sz3 rfl rfl rfl rfl rfl (Nat.le_of_ble_eq_true rfl) rfl (fun w11 (hS11 : St B (cel g [Value.slice a l.length cap, Value.int .i64 (gone + 1)] 49 :: own a l.length cap 51 3 (l.flatMap pcell) :: (roAll l) :: L) w11) => ?_)
   clear hS
   refine WO.nil ?_
   refine NX.go ?_
   refine WP.seq ?_
   refine WP.region rfl ?_
   refine WO.val (run_assign rfl) rfl rfl rfl ?_
   refine WO.nil ?_
   refine NX.go ?_
   refine WP.ret ?_
   refine NX.blkRet ?_
   refine NX.thenRet ?_
   refine NX.done (l := [.tmp 6]) rfl rfl ?_
   refine ⟨by rw [hfull (by omega) (by omega)]; rfl, by rw [hfull (by omega) (by omega)]; exact netP_shut hv hlen hS11⟩
  ·
   refine WP.skip ?_
   refine NX.blk ?_
   refine NX.go ?_
   refine WP.seq ?_
   refine WP.region rfl ?_
   refine WO.val (run_move rfl) rfl rfl rfl ?_
   refine WO.val (run_move rfl) rfl rfl rfl ?_
   refine WO.val (run_nilCheck rfl) rfl rfl rfl ?_
   refine WO.val (run_fieldAddr (q := ⟨g, 0, none⟩) (show fieldB Try.prog 49 0 = some 0 from by kernel_rfl) rfl rfl) rfl rfl rfl ?_
   refine WO.val (run_load Ty.ag47 rfl ((hS.cel_at 0 rfl 0).trans rfl)) rfl rfl rfl ?_
   refine WO.val (run_move rfl) rfl rfl rfl ?_
   refine WO.val (run_move rfl) rfl rfl rfl ?_
   refine WO.strToBytes Try.underlying28 Try.underlying5 Try.underlying9 rfl hS rfl (fun a13 c14 w12 hS12 => ?_)
   clear hS
   refine WO.val (run_build (v := Value.agg #[Value.int .i64 who, Value.slice a13 s.length c14, Value.bool false]) rfl (fun w => by kernel_rfl)) rfl rfl rfl ?_
   refine WO.buildSlice (l := [Value.int .i64 who, Value.slice a13 s.length c14, Value.bool false]) hS12 Try.underlying47 rfl (fun w => by kernel_rfl) rfl (fun g16 w15 lg16 hS15 => ?_)
   clear hS12
   refine WO.append (news := [Value.int .i64 who, Value.slice a13 s.length c14, Value.bool false]) 3 rfl Try.underlying47 Try.underlying47 (fun _ h => by cases h) Ty.sz51 (by decide) Ty.by51 Ty.zr51 rfl rfl rfl rfl hS15 rfl ((hS15.cel_rd 0 rfl (o := 0) (m := 1) (k := 3) rfl (Nat.le_of_ble_eq_true rfl)).src) rfl (by omega) (by omega) (fun a18 c19 w17 hS17 => ?_)
   replace hS17 : St B (cel g16 [Value.int .i64 who, Value.slice a13 s.length c14, Value.bool false] 51 :: own a13 s.length c14 5 1 (s.map fun b => Value.int .u8 b.toNat) :: cel g [Value.slice a l.length cap, Value.int .i64 gone] 49 :: own a18 (l.length + 1) c19 51 3 ((l.flatMap pcell) ++ [Value.int .i64 who, Value.slice a13 s.length c14, Value.bool false]) :: (roAll l) :: L) w17 := hS17
   clear hS15
   refine WO.val (run_nilCheck rfl) rfl rfl rfl ?_
   refine WO.val (run_fieldAddr (q := ⟨g, 0, none⟩) (show fieldB Try.prog 49 0 = some 0 from by kernel_rfl) rfl rfl) rfl rfl rfl ?_
   refine WO.store (l' := [Value.slice a18 (l.length + 1) c19, Value.int .i64 gone]) 2 hS17 rfl Ty.sz47 rfl rfl rfl rfl rfl (Nat.le_of_ble_eq_true rfl) rfl (fun w20 (hS20 : St B (cel g16 [Value.int .i64 who, Value.slice a13 s.length c14, Value.bool false] 51 :: own a13 s.length c14 5 1 (s.map fun b => Value.int .u8 b.toNat) :: cel g [Value.slice a18 (l.length + 1) c19, Value.int .i64 gone] 49 :: own a18 (l.length + 1) c19 51 3 ((l.flatMap pcell) ++ [Value.int .i64 who, Value.slice a13 s.length c14, Value.bool false]) :: (roAll l) :: L) w20) => ?_)
   clear hS17
   refine WO.nil ?_
   refine NX.go ?_
   refine WP.seq ?_
   refine WP.region rfl ?_
   refine WO.val (run_assign rfl) rfl rfl rfl ?_
   refine WO.nil ?_
   refine NX.go ?_
   refine WP.ret ?_
   refine NX.done (l := [.tmp 6]) rfl rfl ?_
   refine ⟨by rw [hok (by omega) (by omega)]; rfl, ?_⟩
   rw [hok (by omega) (by omega)]
   exact net_snoc hv (by omega) (hS20.drop).own_seal
end Go.Proofs.Ytcdbnbdeinhokaa.SL
