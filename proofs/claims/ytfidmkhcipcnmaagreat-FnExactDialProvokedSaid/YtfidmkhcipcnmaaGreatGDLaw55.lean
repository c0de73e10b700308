/- FnExactDialProvoked: whatever the input, the law returns true and each argument reads behind the call as it read before; no condition. -/
import Derived.Test.YtfidmkhcipcnmaaGreatRows
import Derived.Test.YtfidmkhcipcnmaaGreatGDN55
import Derived.Test.YtfidmkhcipcnmaaGreatVmX
import Derived.ProofKit
set_option maxHeartbeats 4000000
set_option maxRecDepth 10000
set_option linter.unusedVariables false
set_option linter.unusedSimpArgs false
namespace Go.Proofs.YtfidmkhcipcnmaaGreat
open Go.ChangeShapes Go.WideShapes Go.ChangeAt Go.RowKit Go.Vm
def fnIds:List (Nat×Nat):=[(2,2),(3,54),(4,55),(5,83),(6,101),(7,222),(8,85),(9,103),(10,76),(11,204),(12,95),(13,78),(14,105),(15,79),(16,1081),(17,1172),(18,1080),(19,1224),(20,225),(21,226),(22,203),(23,227),(24,197),(25,56),(26,208),(27,210),(28,149),(29,199),(30,58),(31,184),(32,211),(33,150),(34,65),(35,200),(36,60),(37,1201),(38,1087),(39,88),(40,125),(41,338),(42,339),(43,319),(44,142),(45,192),(46,279),(47,205),(48,196),(49,168),(50,160),(51,143),(52,162),(53,151),(54,280),(55,292),(56,286),(57,230),(58,320),(59,113),(60,185),(61,261),(62,189),(63,182),(64,254),(65,287),(66,179),(67,232),(68,321),(69,257),(70,271),(71,130),(72,295),(73,170),(74,164),(75,198),(76,173),(77,112),(78,306),(79,307),(80,301),(81,127),(82,285),(83,282),(84,71),(85,283),(86,120),(87,293),(88,255),(89,258),(90,131),(91,266),(92,171),(93,165),(94,186),(95,174),(96,169),(97,119),(98,144),(99,163),(100,152),(101,161),(102,146),(103,302),(104,231),(105,228),(106,272),(107,166),(108,75),(109,68),(110,256),(111,268),(112,290),(113,233),(114,229),(115,273),(116,264),(117,347),(118,77),(119,305),(120,167),(121,69),(122,310),(123,299),(124,311),(125,111),(126,308),(127,309),(128,267),(129,114),(130,73),(131,284),(132,121),(133,294),(134,304),(135,118),(136,303),(137,354),(138,348),(139,351),(140,352),(141,336),(142,340),(143,350),(144,291),(145,358),(146,288),(147,359),(148,180),(149,356),(150,337),(151,357),(152,234),(153,235),(154,269),(155,355),(156,223),(157,377),(158,341),(159,349)]
def sid (g:Nat):Nat:=((fnIds.find? fun p=>p.2== g).map (·.1)).getD 0
theorem sid_ok:∀ p∈fnIds,sid p.2=p.1:=by decide+kernel
theorem own:ownKnob Tryz.prog.godebug=none:=by kernel_rfl
theorem laidOut:laidOutB Tryz.prog=true:=by kernel_rfl
def laysGrow_ren:Go.Shelf.Ren:=⟨fun | 4=>155 | n=>n,fun | 22=>22 | 25=>3 | 3=>3 | 4=>4 | 9=>9 | 20=>20 | 0=>0 | n=>n,fun | n=>n⟩
theorem laysGrow:Go.Proofs.Lays8.n4 Tryz.prog laysGrow_ren:={
 mixed:=by kernel_rfl
 f4:=⟨Tryz.f155.name,by decide,Tryz.func155.trans (congrArg some (by kernel_rfl))⟩
 t0:=Tryz.underlying0
 a0:=Tryz.isAgg0
 z0:=Tryz.sizeOf0
 v0:=Tryz.zeroValue0
 t3:=Tryz.underlying3
 a3:=Tryz.isAgg3
 z3:=Tryz.sizeOf3
 v3:=Tryz.zeroValue3
 t4:=Tryz.underlying4
 a4:=Tryz.isAgg4
 z4:=Tryz.sizeOf4
 v4:=Tryz.zeroValue4
 t9:=Tryz.underlying9
 a9:=Tryz.isAgg9
 z9:=Tryz.sizeOf9
 v9:=Tryz.zeroValue9
 t20:=Tryz.underlying20
 a20:=Tryz.isAgg20
 z20:=Tryz.sizeOf20
 v20:=Tryz.zeroValue20
 t22:=Tryz.underlying22
 a22:=Tryz.isAgg22
 z22:=Tryz.sizeOf22
 v22:=Tryz.zeroValue22 }
theorem good_227:Go.Vm.E7 Tryz.prog sid (fun f=>fnIds.lookup f) (227,ir227):= .inl ⟨rfl,Tryz.f23,[],Tryz.func23,by kernel_rfl,by kernel_rfl⟩
theorem good_56:Go.Vm.E7 Tryz.prog sid (fun f=>fnIds.lookup f) (56,ir56):= .inl ⟨rfl,Tryz.f25,[],Tryz.func25,by kernel_rfl,by kernel_rfl⟩
theorem good_101:Go.Vm.E7 Tryz.prog sid (fun f=>fnIds.lookup f) (101,ir101):= .inl ⟨rfl,Tryz.f6,[],Tryz.func6,by kernel_rfl,by kernel_rfl⟩
theorem good_76:Go.Vm.E7 Tryz.prog sid (fun f=>fnIds.lookup f) (76,ir76):= .inl ⟨rfl,Tryz.f10,[],Tryz.func10,by kernel_rfl,by kernel_rfl⟩
theorem good_58:Go.Vm.E7 Tryz.prog sid (fun f=>fnIds.lookup f) (58,ir58):= .inl ⟨rfl,Tryz.f30,[],Tryz.func30,by kernel_rfl,by kernel_rfl⟩
theorem good_103:Go.Vm.E7 Tryz.prog sid (fun f=>fnIds.lookup f) (103,ir103):= .inl ⟨rfl,Tryz.f9,[],Tryz.func9,by kernel_rfl,by kernel_rfl⟩
theorem good_79:Go.Vm.E7 Tryz.prog sid (fun f=>fnIds.lookup f) (79,ir79):= .inl ⟨rfl,Tryz.f15,[],Tryz.func15,by kernel_rfl,by kernel_rfl⟩
theorem good_60:Go.Vm.E7 Tryz.prog sid (fun f=>fnIds.lookup f) (60,ir60):= .inl ⟨rfl,Tryz.f36,[],Tryz.func36,by kernel_rfl,by kernel_rfl⟩
theorem good_105:Go.Vm.E7 Tryz.prog sid (fun f=>fnIds.lookup f) (105,ir105):= .inl ⟨rfl,Tryz.f14,[],Tryz.func14,by kernel_rfl,by kernel_rfl⟩
theorem good_1080:Go.Vm.E7 Tryz.prog sid (fun f=>fnIds.lookup f) (1080,ir1080):= .inl ⟨rfl,Tryz.f18,[.mrow, .val],Tryz.func18,by kernel_rfl,by kernel_rfl⟩
theorem good_1201:Go.Vm.E7 Tryz.prog sid (fun f=>fnIds.lookup f) (1201,ir1201):= .inl ⟨rfl,Tryz.f37,[.mrow, .val],Tryz.func37,by kernel_rfl,by kernel_rfl⟩
theorem good_1081:Go.Vm.E7 Tryz.prog sid (fun f=>fnIds.lookup f) (1081,ir1081):= .inl ⟨rfl,Tryz.f16,[.mrow, .val],Tryz.func16,by kernel_rfl,by kernel_rfl⟩
theorem good_1172:Go.Vm.E7 Tryz.prog sid (fun f=>fnIds.lookup f) (1172,ir1172):= .inl ⟨rfl,Tryz.f17,[.mrow, .val],Tryz.func17,by kernel_rfl,by kernel_rfl⟩
theorem good_228:Go.Vm.E7 Tryz.prog sid (fun f=>fnIds.lookup f) (228,ir228):= .inl ⟨rfl,Tryz.f105,[],Tryz.func105,by kernel_rfl,by kernel_rfl⟩
theorem good_285:Go.Vm.E7 Tryz.prog sid (fun f=>fnIds.lookup f) (285,ir285):= .inl ⟨rfl,Tryz.f82,[],Tryz.func82,by kernel_rfl,by kernel_rfl⟩
theorem good_286:Go.Vm.E7 Tryz.prog sid (fun f=>fnIds.lookup f) (286,ir286):= .inl ⟨rfl,Tryz.f56,[],Tryz.func56,by kernel_rfl,by kernel_rfl⟩
theorem good_230:Go.Vm.E7 Tryz.prog sid (fun f=>fnIds.lookup f) (230,ir230):= .inl ⟨rfl,Tryz.f57,[],Tryz.func57,by kernel_rfl,by kernel_rfl⟩
theorem good_292:Go.Vm.E7 Tryz.prog sid (fun f=>fnIds.lookup f) (292,ir292):= .inl ⟨rfl,Tryz.f55,[],Tryz.func55,by kernel_rfl,by kernel_rfl⟩
theorem good_149:Go.Vm.E7 Tryz.prog sid (fun f=>fnIds.lookup f) (149,ir149):= .inl ⟨rfl,Tryz.f28,[],Tryz.func28,by kernel_rfl,by kernel_rfl⟩
theorem good_280:Go.Vm.E7 Tryz.prog sid (fun f=>fnIds.lookup f) (280,ir280):= .inl ⟨rfl,Tryz.f54,[],Tryz.func54,by kernel_rfl,by kernel_rfl⟩
theorem good_179:Go.Vm.E7 Tryz.prog sid (fun f=>fnIds.lookup f) (179,ir179):= .inl ⟨rfl,Tryz.f66,[],Tryz.func66,by kernel_rfl,by kernel_rfl⟩
theorem good_232:Go.Vm.E7 Tryz.prog sid (fun f=>fnIds.lookup f) (232,ir232):= .inl ⟨rfl,Tryz.f67,[],Tryz.func67,by kernel_rfl,by kernel_rfl⟩
theorem good_354:Go.Vm.E7 Tryz.prog sid (fun f=>fnIds.lookup f) (354,ir354):= .inl ⟨rfl,Tryz.f137,[],Tryz.func137,by kernel_rfl,by kernel_rfl⟩
theorem good_302:Go.Vm.E7 Tryz.prog sid (fun f=>fnIds.lookup f) (302,ir302):= .inl ⟨rfl,Tryz.f103,[],Tryz.func103,by kernel_rfl,by kernel_rfl⟩
theorem good_287:Go.Vm.E7 Tryz.prog sid (fun f=>fnIds.lookup f) (287,ir287):= .inl ⟨rfl,Tryz.f65,[],Tryz.func65,by kernel_rfl,by kernel_rfl⟩
theorem good_150:Go.Vm.E7 Tryz.prog sid (fun f=>fnIds.lookup f) (150,ir150):= .inl ⟨rfl,Tryz.f33,[],Tryz.func33,by kernel_rfl,by kernel_rfl⟩
theorem good_1087:Go.Vm.E7 Tryz.prog sid (fun f=>fnIds.lookup f) (1087,ir1087):= .inl ⟨rfl,Tryz.f38,[.mrow, .val],Tryz.func38,by kernel_rfl,by kernel_rfl⟩
theorem good_1224:Go.Vm.E7 Tryz.prog sid (fun f=>fnIds.lookup f) (1224,ir1224):= .inl ⟨rfl,Tryz.f19,[.mrow, .val],Tryz.func19,by kernel_rfl,by kernel_rfl⟩
theorem good_257:Go.Vm.E7 Tryz.prog sid (fun f=>fnIds.lookup f) (257,ir257):= .inl ⟨rfl,Tryz.f69,[],Tryz.func69,by kernel_rfl,by kernel_rfl⟩
theorem good_231:Go.Vm.E7 Tryz.prog sid (fun f=>fnIds.lookup f) (231,ir231):= .inl ⟨rfl,Tryz.f104,[],Tryz.func104,by kernel_rfl,by kernel_rfl⟩
theorem good_271:Go.Vm.E7 Tryz.prog sid (fun f=>fnIds.lookup f) (271,ir271):= .inl ⟨rfl,Tryz.f70,[],Tryz.func70,by kernel_rfl,by kernel_rfl⟩
theorem good_142:Go.Vm.E7 Tryz.prog sid (fun f=>fnIds.lookup f) (142,ir142):= .inl ⟨rfl,Tryz.f44,[],Tryz.func44,by kernel_rfl,by kernel_rfl⟩
theorem good_255:Go.Vm.E7 Tryz.prog sid (fun f=>fnIds.lookup f) (255,ir255):= .inl ⟨rfl,Tryz.f88,[],Tryz.func88,by kernel_rfl,by kernel_rfl⟩
theorem good_377:Go.Vm.E7 Tryz.prog sid (fun f=>fnIds.lookup f) (377,ir377):= .inl ⟨rfl,Tryz.f157,[],Tryz.func157,by kernel_rfl,by kernel_rfl⟩
theorem good_336:Go.Vm.E7 Tryz.prog sid (fun f=>fnIds.lookup f) (336,ir336):= .inl ⟨rfl,Tryz.f141,[],Tryz.func141,by kernel_rfl,by kernel_rfl⟩
theorem good_340:Go.Vm.E7 Tryz.prog sid (fun f=>fnIds.lookup f) (340,ir340):= .inl ⟨rfl,Tryz.f142,[],Tryz.func142,by kernel_rfl,by kernel_rfl⟩
theorem good_233:Go.Vm.E7 Tryz.prog sid (fun f=>fnIds.lookup f) (233,ir233):= .inl ⟨rfl,Tryz.f113,[],Tryz.func113,by kernel_rfl,by kernel_rfl⟩
theorem good_351:Go.Vm.E7 Tryz.prog sid (fun f=>fnIds.lookup f) (351,ir351):= .inl ⟨rfl,Tryz.f139,[],Tryz.func139,by kernel_rfl,by kernel_rfl⟩
theorem good_352:Go.Vm.E7 Tryz.prog sid (fun f=>fnIds.lookup f) (352,ir352):= .inl ⟨rfl,Tryz.f140,[],Tryz.func140,by kernel_rfl,by kernel_rfl⟩
theorem good_290:Go.Vm.E7 Tryz.prog sid (fun f=>fnIds.lookup f) (290,ir290):= .inl ⟨rfl,Tryz.f112,[],Tryz.func112,by kernel_rfl,by kernel_rfl⟩
theorem good_258:Go.Vm.E7 Tryz.prog sid (fun f=>fnIds.lookup f) (258,ir258):= .inl ⟨rfl,Tryz.f89,[],Tryz.func89,by kernel_rfl,by kernel_rfl⟩
theorem good_113:Go.Vm.E7 Tryz.prog sid (fun f=>fnIds.lookup f) (113,ir113):= .inl ⟨rfl,Tryz.f59,[],Tryz.func59,by kernel_rfl,by kernel_rfl⟩
theorem good_229:Go.Vm.E7 Tryz.prog sid (fun f=>fnIds.lookup f) (229,ir229):= .inl ⟨rfl,Tryz.f114,[],Tryz.func114,by kernel_rfl,by kernel_rfl⟩
theorem good_272:Go.Vm.E7 Tryz.prog sid (fun f=>fnIds.lookup f) (272,ir272):= .inl ⟨rfl,Tryz.f106,[],Tryz.func106,by kernel_rfl,by kernel_rfl⟩
theorem good_291:Go.Vm.E7 Tryz.prog sid (fun f=>fnIds.lookup f) (291,ir291):= .inl ⟨rfl,Tryz.f144,[],Tryz.func144,by kernel_rfl,by kernel_rfl⟩
theorem good_350:Go.Vm.E7 Tryz.prog sid (fun f=>fnIds.lookup f) (350,ir350):= .inl ⟨rfl,Tryz.f143,[],Tryz.func143,by kernel_rfl,by kernel_rfl⟩
theorem good_273:Go.Vm.E7 Tryz.prog sid (fun f=>fnIds.lookup f) (273,ir273):= .inl ⟨rfl,Tryz.f115,[],Tryz.func115,by kernel_rfl,by kernel_rfl⟩
theorem good_131:Go.Vm.E7 Tryz.prog sid (fun f=>fnIds.lookup f) (131,ir131):= .inl ⟨rfl,Tryz.f90,[],Tryz.func90,by kernel_rfl,by kernel_rfl⟩
theorem good_264:Go.Vm.E7 Tryz.prog sid (fun f=>fnIds.lookup f) (264,ir264):= .inl ⟨rfl,Tryz.f116,[],Tryz.func116,by kernel_rfl,by kernel_rfl⟩
theorem good_299:Go.Vm.E7 Tryz.prog sid (fun f=>fnIds.lookup f) (299,ir299):=G9 sid_ok (by kernel_rfl) rfl Tryz.func123 (by kernel_rfl) (by kernel_rfl) (by kernel_rfl) (by kernel_rfl) (by kernel_rfl) (by kernel_rfl) (by kernel_rfl) (by kernel_rfl) (by kernel_rfl) (by kernel_rfl) (by kernel_rfl) (by kernel_rfl) (by kernel_rfl) (by kernel_rfl)
theorem good_288:Go.Vm.E7 Tryz.prog sid (fun f=>fnIds.lookup f) (288,ir288):= .inl ⟨rfl,Tryz.f146,[],Tryz.func146,by kernel_rfl,by kernel_rfl⟩
theorem good_68:Go.Vm.E7 Tryz.prog sid (fun f=>fnIds.lookup f) (68,ir68):= .inl ⟨rfl,Tryz.f109,[],Tryz.func109,by kernel_rfl,by kernel_rfl⟩
theorem good_358:Go.Vm.E7 Tryz.prog sid (fun f=>fnIds.lookup f) (358,ir358):= .inl ⟨rfl,Tryz.f145,[],Tryz.func145,by kernel_rfl,by kernel_rfl⟩
theorem good_359:Go.Vm.E7 Tryz.prog sid (fun f=>fnIds.lookup f) (359,ir359):= .inl ⟨rfl,Tryz.f147,[],Tryz.func147,by kernel_rfl,by kernel_rfl⟩
theorem good_310:Go.Vm.E7 Tryz.prog sid (fun f=>fnIds.lookup f) (310,ir310):= .inl ⟨rfl,Tryz.f122,[],Tryz.func122,by kernel_rfl,by kernel_rfl⟩
theorem good_311:Go.Vm.E7 Tryz.prog sid (fun f=>fnIds.lookup f) (311,ir311):= .inl ⟨rfl,Tryz.f124,[],Tryz.func124,by kernel_rfl,by kernel_rfl⟩
theorem good_69:Go.Vm.E7 Tryz.prog sid (fun f=>fnIds.lookup f) (69,ir69):= .inl ⟨rfl,Tryz.f121,[],Tryz.func121,by kernel_rfl,by kernel_rfl⟩
theorem good_174:Go.Vm.E7 Tryz.prog sid (fun f=>fnIds.lookup f) (174,ir174):= .inl ⟨rfl,Tryz.f95,[],Tryz.func95,by kernel_rfl,by kernel_rfl⟩
theorem good_347:Go.Vm.E7 Tryz.prog sid (fun f=>fnIds.lookup f) (347,ir347):= .inl ⟨rfl,Tryz.f117,[],Tryz.func117,by kernel_rfl,by kernel_rfl⟩
theorem good_266:Go.Vm.E7 Tryz.prog sid (fun f=>fnIds.lookup f) (266,ir266):= .inl ⟨rfl,Tryz.f91,[],Tryz.func91,by kernel_rfl,by kernel_rfl⟩
theorem good_261:Go.Vm.E7 Tryz.prog sid (fun f=>fnIds.lookup f) (261,ir261):= .inl ⟨rfl,Tryz.f61,[],Tryz.func61,by kernel_rfl,by kernel_rfl⟩
theorem good_182:Go.Vm.E7 Tryz.prog sid (fun f=>fnIds.lookup f) (182,ir182):= .inl ⟨rfl,Tryz.f63,[],Tryz.func63,by kernel_rfl,by kernel_rfl⟩
theorem good_185:Go.Vm.E7 Tryz.prog sid (fun f=>fnIds.lookup f) (185,ir185):= .inl ⟨rfl,Tryz.f60,[],Tryz.func60,by kernel_rfl,by kernel_rfl⟩
theorem good_307:Go.Vm.E7 Tryz.prog sid (fun f=>fnIds.lookup f) (307,ir307):= .inl ⟨rfl,Tryz.f79,[],Tryz.func79,by kernel_rfl,by kernel_rfl⟩
theorem good_164:Go.Vm.E7 Tryz.prog sid (fun f=>fnIds.lookup f) (164,ir164):= .inl ⟨rfl,Tryz.f74,[],Tryz.func74,by kernel_rfl,by kernel_rfl⟩
theorem good_305:Go.Vm.E7 Tryz.prog sid (fun f=>fnIds.lookup f) (305,ir305):= .inl ⟨rfl,Tryz.f119,[],Tryz.func119,by kernel_rfl,by kernel_rfl⟩
theorem good_165:Go.Vm.E7 Tryz.prog sid (fun f=>fnIds.lookup f) (165,ir165):= .inl ⟨rfl,Tryz.f93,[],Tryz.func93,by kernel_rfl,by kernel_rfl⟩
theorem good_77:Go.Vm.E7 Tryz.prog sid (fun f=>fnIds.lookup f) (77,ir77):= .inl ⟨rfl,Tryz.f118,[],Tryz.func118,by kernel_rfl,by kernel_rfl⟩
theorem good_171:Go.Vm.E7 Tryz.prog sid (fun f=>fnIds.lookup f) (171,ir171):= .inl ⟨rfl,Tryz.f92,[],Tryz.func92,by kernel_rfl,by kernel_rfl⟩
theorem good_167:Go.Vm.E7 Tryz.prog sid (fun f=>fnIds.lookup f) (167,ir167):= .inl ⟨rfl,Tryz.f120,[],Tryz.func120,by kernel_rfl,by kernel_rfl⟩
theorem good_186:Go.Vm.E7 Tryz.prog sid (fun f=>fnIds.lookup f) (186,ir186):= .inl ⟨rfl,Tryz.f94,[],Tryz.func94,by kernel_rfl,by kernel_rfl⟩
theorem good_189:Go.Vm.E7 Tryz.prog sid (fun f=>fnIds.lookup f) (189,ir189):= .inl ⟨rfl,Tryz.f62,[],Tryz.func62,by kernel_rfl,by kernel_rfl⟩
theorem good_184:Go.Vm.E7 Tryz.prog sid (fun f=>fnIds.lookup f) (184,ir184):= .inl ⟨rfl,Tryz.f31,[],Tryz.func31,by kernel_rfl,by kernel_rfl⟩
theorem good_348:Go.Vm.E7 Tryz.prog sid (fun f=>fnIds.lookup f) (348,ir348):= .inl ⟨rfl,Tryz.f138,[],Tryz.func138,by kernel_rfl,by kernel_rfl⟩
theorem good_268:Go.Vm.E7 Tryz.prog sid (fun f=>fnIds.lookup f) (268,ir268):= .inl ⟨rfl,Tryz.f111,[],Tryz.func111,by kernel_rfl,by kernel_rfl⟩
theorem good_71:Go.Vm.E7 Tryz.prog sid (fun f=>fnIds.lookup f) (71,ir71):= .inl ⟨rfl,Tryz.f84,[],Tryz.func84,by kernel_rfl,by kernel_rfl⟩
theorem good_120:Go.Vm.E7 Tryz.prog sid (fun f=>fnIds.lookup f) (120,ir120):= .inl ⟨rfl,Tryz.f86,[],Tryz.func86,by kernel_rfl,by kernel_rfl⟩
theorem good_282:Go.Vm.E7 Tryz.prog sid (fun f=>fnIds.lookup f) (282,ir282):= .inl ⟨rfl,Tryz.f83,[],Tryz.func83,by kernel_rfl,by kernel_rfl⟩
theorem good_283:Go.Vm.E7 Tryz.prog sid (fun f=>fnIds.lookup f) (283,ir283):= .inl ⟨rfl,Tryz.f85,[],Tryz.func85,by kernel_rfl,by kernel_rfl⟩
theorem good_143:Go.Vm.E7 Tryz.prog sid (fun f=>fnIds.lookup f) (143,ir143):= .inl ⟨rfl,Tryz.f51,[],Tryz.func51,by kernel_rfl,by kernel_rfl⟩
theorem good_127:Go.Vm.E7 Tryz.prog sid (fun f=>fnIds.lookup f) (127,ir127):= .inl ⟨rfl,Tryz.f81,[],Tryz.func81,by kernel_rfl,by kernel_rfl⟩
theorem good_293:Go.Vm.E7 Tryz.prog sid (fun f=>fnIds.lookup f) (293,ir293):= .inl ⟨rfl,Tryz.f87,[],Tryz.func87,by kernel_rfl,by kernel_rfl⟩
theorem good_151:Go.Vm.E7 Tryz.prog sid (fun f=>fnIds.lookup f) (151,ir151):= .inl ⟨rfl,Tryz.f53,[],Tryz.func53,by kernel_rfl,by kernel_rfl⟩
theorem good_301:Go.Vm.E7 Tryz.prog sid (fun f=>fnIds.lookup f) (301,ir301):= .inl ⟨rfl,Tryz.f80,[],Tryz.func80,by kernel_rfl,by kernel_rfl⟩
theorem good_160:Go.Vm.E7 Tryz.prog sid (fun f=>fnIds.lookup f) (160,ir160):= .inl ⟨rfl,Tryz.f50,[],Tryz.func50,by kernel_rfl,by kernel_rfl⟩
theorem good_162:Go.Vm.E7 Tryz.prog sid (fun f=>fnIds.lookup f) (162,ir162):= .inl ⟨rfl,Tryz.f52,[],Tryz.func52,by kernel_rfl,by kernel_rfl⟩
theorem good_256:Go.Vm.E7 Tryz.prog sid (fun f=>fnIds.lookup f) (256,ir256):= .inl ⟨rfl,Tryz.f110,[],Tryz.func110,by kernel_rfl,by kernel_rfl⟩
theorem good_112:Go.Vm.E7 Tryz.prog sid (fun f=>fnIds.lookup f) (112,ir112):= .inl ⟨rfl,Tryz.f77,[],Tryz.func77,by kernel_rfl,by kernel_rfl⟩
theorem good_306:Go.Vm.E7 Tryz.prog sid (fun f=>fnIds.lookup f) (306,ir306):= .inl ⟨rfl,Tryz.f78,[],Tryz.func78,by kernel_rfl,by kernel_rfl⟩
theorem good_168:Go.Vm.E7 Tryz.prog sid (fun f=>fnIds.lookup f) (168,ir168):= .inl ⟨rfl,Tryz.f49,[],Tryz.func49,by kernel_rfl,by kernel_rfl⟩
theorem good_173:Go.Vm.E7 Tryz.prog sid (fun f=>fnIds.lookup f) (173,ir173):= .inl ⟨rfl,Tryz.f76,[],Tryz.func76,by kernel_rfl,by kernel_rfl⟩
theorem good_295:Go.Vm.E7 Tryz.prog sid (fun f=>fnIds.lookup f) (295,ir295):= .inl ⟨rfl,Tryz.f72,[],Tryz.func72,by kernel_rfl,by kernel_rfl⟩
theorem good_279:Go.Vm.E7 Tryz.prog sid (fun f=>fnIds.lookup f) (279,ir279):= .inl ⟨rfl,Tryz.f46,[],Tryz.func46,by kernel_rfl,by kernel_rfl⟩
theorem good_196:Go.Vm.E7 Tryz.prog sid (fun f=>fnIds.lookup f) (196,ir196):= .inl ⟨rfl,Tryz.f48,[],Tryz.func48,by kernel_rfl,by kernel_rfl⟩
theorem good_210:Go.Vm.E7 Tryz.prog sid (fun f=>fnIds.lookup f) (210,ir210):= .inl ⟨rfl,Tryz.f27,[],Tryz.func27,by kernel_rfl,by kernel_rfl⟩
theorem good_267:Go.Vm.E7 Tryz.prog sid (fun f=>fnIds.lookup f) (267,ir267):= .inl ⟨rfl,Tryz.f128,[],Tryz.func128,by kernel_rfl,by kernel_rfl⟩
theorem good_119:Go.Vm.E7 Tryz.prog sid (fun f=>fnIds.lookup f) (119,ir119):= .inl ⟨rfl,Tryz.f97,[],Tryz.func97,by kernel_rfl,by kernel_rfl⟩
theorem good_114:Go.Vm.E7 Tryz.prog sid (fun f=>fnIds.lookup f) (114,ir114):= .inl ⟨rfl,Tryz.f129,[],Tryz.func129,by kernel_rfl,by kernel_rfl⟩
theorem good_349:Go.Vm.E7 Tryz.prog sid (fun f=>fnIds.lookup f) (349,ir349):= .inl ⟨rfl,Tryz.f159,[],Tryz.func159,by kernel_rfl,by kernel_rfl⟩
theorem good_269:Go.Vm.E7 Tryz.prog sid (fun f=>fnIds.lookup f) (269,ir269):= .inl ⟨rfl,Tryz.f154,[],Tryz.func154,by kernel_rfl,by kernel_rfl⟩
theorem good_341:Go.Vm.E7 Tryz.prog sid (fun f=>fnIds.lookup f) (341,ir341):= .inl ⟨rfl,Tryz.f158,[],Tryz.func158,by kernel_rfl,by kernel_rfl⟩
theorem good_234:Go.Vm.E7 Tryz.prog sid (fun f=>fnIds.lookup f) (234,ir234):= .inl ⟨rfl,Tryz.f152,[],Tryz.func152,by kernel_rfl,by kernel_rfl⟩
theorem good_235:Go.Vm.E7 Tryz.prog sid (fun f=>fnIds.lookup f) (235,ir235):= .inl ⟨rfl,Tryz.f153,[],Tryz.func153,by kernel_rfl,by kernel_rfl⟩
theorem good_73:Go.Vm.E7 Tryz.prog sid (fun f=>fnIds.lookup f) (73,ir73):= .inl ⟨rfl,Tryz.f130,[],Tryz.func130,by kernel_rfl,by kernel_rfl⟩
theorem good_121:Go.Vm.E7 Tryz.prog sid (fun f=>fnIds.lookup f) (121,ir121):= .inl ⟨rfl,Tryz.f132,[],Tryz.func132,by kernel_rfl,by kernel_rfl⟩
theorem good_355:Go.Vm.E7 Tryz.prog sid (fun f=>fnIds.lookup f) (355,ir355):=H6 (i0:=Tryz.t3) (z:= .int .i64 0) laysGrow rfl (by kernel_rfl) (by kernel_rfl) (by kernel_rfl) (by kernel_rfl) (by decide) (by kernel_rfl)
theorem good_304:Go.Vm.E7 Tryz.prog sid (fun f=>fnIds.lookup f) (304,ir304):= .inl ⟨rfl,Tryz.f134,[],Tryz.func134,by kernel_rfl,by kernel_rfl⟩
theorem good_284:Go.Vm.E7 Tryz.prog sid (fun f=>fnIds.lookup f) (284,ir284):= .inl ⟨rfl,Tryz.f131,[],Tryz.func131,by kernel_rfl,by kernel_rfl⟩
theorem good_144:Go.Vm.E7 Tryz.prog sid (fun f=>fnIds.lookup f) (144,ir144):= .inl ⟨rfl,Tryz.f98,[],Tryz.func98,by kernel_rfl,by kernel_rfl⟩
theorem good_146:Go.Vm.E7 Tryz.prog sid (fun f=>fnIds.lookup f) (146,ir146):= .inl ⟨rfl,Tryz.f102,[],Tryz.func102,by kernel_rfl,by kernel_rfl⟩
theorem good_118:Go.Vm.E7 Tryz.prog sid (fun f=>fnIds.lookup f) (118,ir118):= .inl ⟨rfl,Tryz.f135,[],Tryz.func135,by kernel_rfl,by kernel_rfl⟩
theorem good_294:Go.Vm.E7 Tryz.prog sid (fun f=>fnIds.lookup f) (294,ir294):= .inl ⟨rfl,Tryz.f133,[],Tryz.func133,by kernel_rfl,by kernel_rfl⟩
theorem good_152:Go.Vm.E7 Tryz.prog sid (fun f=>fnIds.lookup f) (152,ir152):= .inl ⟨rfl,Tryz.f100,[],Tryz.func100,by kernel_rfl,by kernel_rfl⟩
theorem good_337:Go.Vm.E7 Tryz.prog sid (fun f=>fnIds.lookup f) (337,ir337):= .inl ⟨rfl,Tryz.f150,[],Tryz.func150,by kernel_rfl,by kernel_rfl⟩
theorem good_223:Go.Vm.E7 Tryz.prog sid (fun f=>fnIds.lookup f) (223,ir223):= .inl ⟨rfl,Tryz.f156,[],Tryz.func156,by kernel_rfl,by kernel_rfl⟩
theorem good_303:Go.Vm.E7 Tryz.prog sid (fun f=>fnIds.lookup f) (303,ir303):= .inl ⟨rfl,Tryz.f136,[],Tryz.func136,by kernel_rfl,by kernel_rfl⟩
theorem good_161:Go.Vm.E7 Tryz.prog sid (fun f=>fnIds.lookup f) (161,ir161):= .inl ⟨rfl,Tryz.f101,[],Tryz.func101,by kernel_rfl,by kernel_rfl⟩
theorem good_163:Go.Vm.E7 Tryz.prog sid (fun f=>fnIds.lookup f) (163,ir163):= .inl ⟨rfl,Tryz.f99,[],Tryz.func99,by kernel_rfl,by kernel_rfl⟩
theorem good_180:Go.Vm.E7 Tryz.prog sid (fun f=>fnIds.lookup f) (180,ir180):= .inl ⟨rfl,Tryz.f148,[],Tryz.func148,by kernel_rfl,by kernel_rfl⟩
theorem good_111:Go.Vm.E7 Tryz.prog sid (fun f=>fnIds.lookup f) (111,ir111):= .inl ⟨rfl,Tryz.f125,[],Tryz.func125,by kernel_rfl,by kernel_rfl⟩
theorem good_356:Go.Vm.E7 Tryz.prog sid (fun f=>fnIds.lookup f) (356,ir356):= .inl ⟨rfl,Tryz.f149,[],Tryz.func149,by kernel_rfl,by kernel_rfl⟩
theorem good_308:Go.Vm.E7 Tryz.prog sid (fun f=>fnIds.lookup f) (308,ir308):= .inl ⟨rfl,Tryz.f126,[],Tryz.func126,by kernel_rfl,by kernel_rfl⟩
theorem good_357:Go.Vm.E7 Tryz.prog sid (fun f=>fnIds.lookup f) (357,ir357):= .inl ⟨rfl,Tryz.f151,[],Tryz.func151,by kernel_rfl,by kernel_rfl⟩
theorem good_309:Go.Vm.E7 Tryz.prog sid (fun f=>fnIds.lookup f) (309,ir309):= .inl ⟨rfl,Tryz.f127,[],Tryz.func127,by kernel_rfl,by kernel_rfl⟩
theorem good_169:Go.Vm.E7 Tryz.prog sid (fun f=>fnIds.lookup f) (169,ir169):= .inl ⟨rfl,Tryz.f96,[],Tryz.func96,by kernel_rfl,by kernel_rfl⟩
theorem good_254:Go.Vm.E7 Tryz.prog sid (fun f=>fnIds.lookup f) (254,ir254):= .inl ⟨rfl,Tryz.f64,[],Tryz.func64,by kernel_rfl,by kernel_rfl⟩
theorem good_211:Go.Vm.E7 Tryz.prog sid (fun f=>fnIds.lookup f) (211,ir211):= .inl ⟨rfl,Tryz.f32,[],Tryz.func32,by kernel_rfl,by kernel_rfl⟩
theorem good_130:Go.Vm.E7 Tryz.prog sid (fun f=>fnIds.lookup f) (130,ir130):= .inl ⟨rfl,Tryz.f71,[],Tryz.func71,by kernel_rfl,by kernel_rfl⟩
theorem good_192:Go.Vm.E7 Tryz.prog sid (fun f=>fnIds.lookup f) (192,ir192):= .inl ⟨rfl,Tryz.f45,[],Tryz.func45,by kernel_rfl,by kernel_rfl⟩
theorem good_75:Go.Vm.E7 Tryz.prog sid (fun f=>fnIds.lookup f) (75,ir75):= .inl ⟨rfl,Tryz.f108,[],Tryz.func108,by kernel_rfl,by kernel_rfl⟩
theorem good_166:Go.Vm.E7 Tryz.prog sid (fun f=>fnIds.lookup f) (166,ir166):= .inl ⟨rfl,Tryz.f107,[],Tryz.func107,by kernel_rfl,by kernel_rfl⟩
theorem good_170:Go.Vm.E7 Tryz.prog sid (fun f=>fnIds.lookup f) (170,ir170):= .inl ⟨rfl,Tryz.f73,[],Tryz.func73,by kernel_rfl,by kernel_rfl⟩
theorem good_198:Go.Vm.E7 Tryz.prog sid (fun f=>fnIds.lookup f) (198,ir198):= .inl ⟨rfl,Tryz.f75,[],Tryz.func75,by kernel_rfl,by kernel_rfl⟩
theorem good_205:Go.Vm.E7 Tryz.prog sid (fun f=>fnIds.lookup f) (205,ir205):= .inl ⟨rfl,Tryz.f47,[],Tryz.func47,by kernel_rfl,by kernel_rfl⟩
theorem good_208:Go.Vm.E7 Tryz.prog sid (fun f=>fnIds.lookup f) (208,ir208):= .inl ⟨rfl,Tryz.f26,[],Tryz.func26,by kernel_rfl,by kernel_rfl⟩
theorem good_222:Go.Vm.E7 Tryz.prog sid (fun f=>fnIds.lookup f) (222,ir222):= .inl ⟨rfl,Tryz.f7,[],Tryz.func7,by kernel_rfl,by kernel_rfl⟩
theorem good_204:Go.Vm.E7 Tryz.prog sid (fun f=>fnIds.lookup f) (204,ir204):= .inl ⟨rfl,Tryz.f11,[],Tryz.func11,by kernel_rfl,by kernel_rfl⟩
theorem good_125:Go.Vm.E7 Tryz.prog sid (fun f=>fnIds.lookup f) (125,ir125):= .inl ⟨rfl,Tryz.f40,[],Tryz.func40,by kernel_rfl,by kernel_rfl⟩
theorem good_88:Go.Vm.E7 Tryz.prog sid (fun f=>fnIds.lookup f) (88,ir88):= .inl ⟨rfl,Tryz.f39,[],Tryz.func39,by kernel_rfl,by kernel_rfl⟩
theorem good_225:Go.Vm.E7 Tryz.prog sid (fun f=>fnIds.lookup f) (225,ir225):= .inl ⟨rfl,Tryz.f20,[],Tryz.func20,by kernel_rfl,by kernel_rfl⟩
theorem good_321:Go.Vm.E7 Tryz.prog sid (fun f=>fnIds.lookup f) (321,ir321):= .inl ⟨rfl,Tryz.f68,[],Tryz.func68,by kernel_rfl,by kernel_rfl⟩
theorem good_200:Go.Vm.E7 Tryz.prog sid (fun f=>fnIds.lookup f) (200,ir200):= .inl ⟨rfl,Tryz.f35,[],Tryz.func35,by kernel_rfl,by kernel_rfl⟩
theorem good_78:Go.Vm.E7 Tryz.prog sid (fun f=>fnIds.lookup f) (78,ir78):= .inl ⟨rfl,Tryz.f13,[],Tryz.func13,by kernel_rfl,by kernel_rfl⟩
theorem good_319:Go.Vm.E7 Tryz.prog sid (fun f=>fnIds.lookup f) (319,ir319):= .inl ⟨rfl,Tryz.f43,[],Tryz.func43,by kernel_rfl,by kernel_rfl⟩
theorem good_197:Go.Vm.E7 Tryz.prog sid (fun f=>fnIds.lookup f) (197,ir197):= .inl ⟨rfl,Tryz.f24,[],Tryz.func24,by kernel_rfl,by kernel_rfl⟩
theorem good_83:Go.Vm.E7 Tryz.prog sid (fun f=>fnIds.lookup f) (83,ir83):= .inl ⟨rfl,Tryz.f5,[],Tryz.func5,by kernel_rfl,by kernel_rfl⟩
theorem good_320:Go.Vm.E7 Tryz.prog sid (fun f=>fnIds.lookup f) (320,ir320):= .inl ⟨rfl,Tryz.f58,[],Tryz.func58,by kernel_rfl,by kernel_rfl⟩
theorem good_199:Go.Vm.E7 Tryz.prog sid (fun f=>fnIds.lookup f) (199,ir199):= .inl ⟨rfl,Tryz.f29,[],Tryz.func29,by kernel_rfl,by kernel_rfl⟩
theorem good_85:Go.Vm.E7 Tryz.prog sid (fun f=>fnIds.lookup f) (85,ir85):= .inl ⟨rfl,Tryz.f8,[],Tryz.func8,by kernel_rfl,by kernel_rfl⟩
theorem good_65:Go.Vm.E7 Tryz.prog sid (fun f=>fnIds.lookup f) (65,ir65):= .inl ⟨rfl,Tryz.f34,[],Tryz.func34,by kernel_rfl,by kernel_rfl⟩
theorem good_95:Go.Vm.E7 Tryz.prog sid (fun f=>fnIds.lookup f) (95,ir95):= .inl ⟨rfl,Tryz.f12,[],Tryz.func12,by kernel_rfl,by kernel_rfl⟩
theorem good_54:Go.Vm.E7 Tryz.prog sid (fun f=>fnIds.lookup f) (54,ir54):= .inl ⟨rfl,Tryz.f3,[],Tryz.func3,by kernel_rfl,by kernel_rfl⟩
theorem good_338:Go.Vm.E7 Tryz.prog sid (fun f=>fnIds.lookup f) (338,ir338):= .inl ⟨rfl,Tryz.f41,[],Tryz.func41,by kernel_rfl,by kernel_rfl⟩
theorem good_339:Go.Vm.E7 Tryz.prog sid (fun f=>fnIds.lookup f) (339,ir339):= .inl ⟨rfl,Tryz.f42,[],Tryz.func42,by kernel_rfl,by kernel_rfl⟩
theorem good_226:Go.Vm.E7 Tryz.prog sid (fun f=>fnIds.lookup f) (226,ir226):= .inl ⟨rfl,Tryz.f21,[],Tryz.func21,by kernel_rfl,by kernel_rfl⟩
theorem good_203:Go.Vm.E7 Tryz.prog sid (fun f=>fnIds.lookup f) (203,ir203):= .inl ⟨rfl,Tryz.f22,[],Tryz.func22,by kernel_rfl,by kernel_rfl⟩
theorem good_55:Go.Vm.E7 Tryz.prog sid (fun f=>fnIds.lookup f) (55,ir55):= .inl ⟨rfl,Tryz.f4,[],Tryz.func4,by kernel_rfl,by kernel_rfl⟩
theorem tab:FnTab Tryz.prog sid (fun f=>fnIds.lookup f) Tb:=Iz fnIds sid_ok (by kernel_rfl) tbl (by
 unfold tbl;intro p hp;simp only[List.mem_cons,List.not_mem_nil,or_false] at hp;rcases hp with rfl | rfl | rfl | rfl | rfl | rfl | rfl | rfl | rfl | rfl | rfl | rfl | rfl | rfl | rfl | rfl | rfl | rfl | rfl | rfl | rfl | rfl | rfl | rfl | rfl | rfl | rfl | rfl | rfl | rfl | rfl | rfl | rfl | rfl | rfl | rfl | rfl | rfl | rfl | rfl | rfl | rfl | rfl | rfl | rfl | rfl | rfl | rfl | rfl | rfl | rfl | rfl | rfl | rfl | rfl | rfl | rfl | rfl | rfl | rfl | rfl | rfl | rfl | rfl | rfl | rfl | rfl | rfl | rfl | rfl | rfl | rfl | rfl | rfl | rfl | rfl | rfl | rfl | rfl | rfl | rfl | rfl | rfl | rfl | rfl | rfl | rfl | rfl | rfl | rfl | rfl | rfl | rfl | rfl | rfl | rfl | rfl | rfl | rfl | rfl | rfl | rfl | rfl | rfl | rfl | rfl | rfl | rfl | rfl | rfl | rfl | rfl | rfl | rfl | rfl | rfl | rfl | rfl | rfl | rfl | rfl | rfl | rfl | rfl | rfl | rfl | rfl | rfl | rfl | rfl | rfl | rfl | rfl | rfl | rfl | rfl | rfl | rfl | rfl | rfl | rfl | rfl | rfl | rfl | rfl | rfl | rfl | rfl | rfl | rfl | rfl | rfl | rfl | rfl | rfl | rfl | rfl
 ·exact good_227
 ·exact good_56
 ·exact good_101
 ·exact good_76
 ·exact good_58
 ·exact good_103
 ·exact good_79
 ·exact good_60
 ·exact good_105
 ·exact good_1080
 ·exact good_1201
 ·exact good_1081
 ·exact good_1172
 ·exact good_228
 ·exact good_285
 ·exact good_286
 ·exact good_230
 ·exact good_292
 ·exact good_149
 ·exact good_280
 ·exact good_179
 ·exact good_232
 ·exact good_354
 ·exact good_302
 ·exact good_287
 ·exact good_150
 ·exact good_1087
 ·exact good_1224
 ·exact good_257
 ·exact good_231
 ·exact good_271
 ·exact good_142
 ·exact good_255
 ·exact good_377
 ·exact good_336
 ·exact good_340
 ·exact good_233
 ·exact good_351
 ·exact good_352
 ·exact good_290
 ·exact good_258
 ·exact good_113
 ·exact good_229
 ·exact good_272
 ·exact good_291
 ·exact good_350
 ·exact good_273
 ·exact good_131
 ·exact good_264
 ·exact good_299
 ·exact good_288
 ·exact good_68
 ·exact good_358
 ·exact good_359
 ·exact good_310
 ·exact good_311
 ·exact good_69
 ·exact good_174
 ·exact good_347
 ·exact good_266
 ·exact good_261
 ·exact good_182
 ·exact good_185
 ·exact good_307
 ·exact good_164
 ·exact good_305
 ·exact good_165
 ·exact good_77
 ·exact good_171
 ·exact good_167
 ·exact good_186
 ·exact good_189
 ·exact good_184
 ·exact good_348
 ·exact good_268
 ·exact good_71
 ·exact good_120
 ·exact good_282
 ·exact good_283
 ·exact good_143
 ·exact good_127
 ·exact good_293
 ·exact good_151
 ·exact good_301
 ·exact good_160
 ·exact good_162
 ·exact good_256
 ·exact good_112
 ·exact good_306
 ·exact good_168
 ·exact good_173
 ·exact good_295
 ·exact good_279
 ·exact good_196
 ·exact good_210
 ·exact good_267
 ·exact good_119
 ·exact good_114
 ·exact good_349
 ·exact good_269
 ·exact good_341
 ·exact good_234
 ·exact good_235
 ·exact good_73
 ·exact good_121
 ·exact good_355
 ·exact good_304
 ·exact good_284
 ·exact good_144
 ·exact good_146
 ·exact good_118
 ·exact good_294
 ·exact good_152
 ·exact good_337
 ·exact good_223
 ·exact good_303
 ·exact good_161
 ·exact good_163
 ·exact good_180
 ·exact good_111
 ·exact good_356
 ·exact good_308
 ·exact good_357
 ·exact good_309
 ·exact good_169
 ·exact good_254
 ·exact good_211
 ·exact good_130
 ·exact good_192
 ·exact good_75
 ·exact good_166
 ·exact good_170
 ·exact good_198
 ·exact good_205
 ·exact good_208
 ·exact good_222
 ·exact good_204
 ·exact good_125
 ·exact good_88
 ·exact good_225
 ·exact good_321
 ·exact good_200
 ·exact good_78
 ·exact good_319
 ·exact good_197
 ·exact good_83
 ·exact good_320
 ·exact good_199
 ·exact good_85
 ·exact good_65
 ·exact good_95
 ·exact good_54
 ·exact good_338
 ·exact good_339
 ·exact good_226
 ·exact good_203
 ·exact good_55)
set_option maxRecDepth 100000 in
theorem lifted (os:Os) (started:os.Started) (H:Type) (enc:TypeId×Value→H):
  ReturnsInHanded {} Tryz.checked os 4 .any (Rows.fnExactDialProvokedSpec.pre6 enc Tryz.prog Tryz.f4 Rows.fnExactDialProvokedRow.domain false) (Rows.fnExactDialProvokedSpec.post enc Tryz.prog Tryz.f4 false true false false):=by
 refine returnsInHanded_of_change (C:=Tryz.checked) own started (by kernel_rfl) Tryz.func4
  (ChangeSpec.witness6 (enc:=enc) (C:=Tryz.checked) false ⟨#[],#[.agg #[.slice none 0 0, .slice none 0 0], .slice none 0 0, .slice none 0 0, .slice none 0 0, .int .i64 0, .int .i64 0],[]⟩ 8 (by kernel_rfl) (by kernel_rfl) (by kernel_rfl) (by kernel_rfl)) ?_
 intro W base args ds gs before hval hW _ _;exact Fu (C:=Tryz.checked) (modes:=md) (m:=8) tab (g:=55) (fn:=Tryz.f4) (ls:=[(true,[.row [.int .i64], .row [.int .i64, .row [.int .i64]]]),(false,[.row [.int .i64, .row [.int .i64], .row [.int .i64], .bool]]),(false,[.row [.int .i64]]),(false,[.row [.int .i64]]),(false,[.int .i64]),(false,[.int .i64])]) (by kernel_rfl) ans55 (s:=Rows.fnExactDialProvokedSpec) rfl (fun H ds h=>by
   have h':ds.length=6:=h
   match ds,h' with
   | [_,_,_,_,_,_],_=>rfl) (tb:=4) (by kernel_rfl) (by kernel_rfl) laidOut (by
   intro t ht;have key:∀ t∈Tryz.f4.params.toList,Tryz.prog.readableRec t=true∧t < Tryz.prog.types.size:=by
    rw[show Tryz.f4.params.toList=[25,26,22,22,3,3] by kernel_rfl]
    intro t ht;simp only[List.mem_cons,List.not_mem_nil,or_false] at ht;rcases ht with rfl | rfl | rfl | rfl | rfl | rfl<;>exact ⟨by kernel_rfl,of_decide_eq_true (by kernel_rfl)⟩
   exact key t ht) W base args ds gs before hval hW
theorem holds:Rows.FnExactDialProvokedSaid:=
 OpenClaim.holds_of_wide 4 Tryz.f4 rfl rfl rfl rfl rfl rfl rfl ⟨rfl,rfl,rfl,rfl,rfl⟩ rfl rfl rfl rfl rfl (by kernel_rfl) Tryz.func4 (by kernel_rfl)
  (of_decide_eq_true (by kernel_rfl)) (by unfold Func.isWrapper;rw[if_neg (by decide+kernel)];exact ⟨rfl,rfl⟩)
  (fun os started H enc _=>lifted os started H enc)
#print axioms holds
end Go.Proofs.YtfidmkhcipcnmaaGreat
